import PyProof.Rows.All
import Wide.All
import OpenK.AllK
import Wide.FinOn
import HandS.ForMost
import HandS.Exc
import HandS.ExcOwn
import HandS.WordsExc
import HandS.Defaults
import HandS.IsInst
import HandS.Walk
import HandS.Zip
import HandS.HeadHook2
import HandS.HeadEnd
import HandS.HeadNt
import HandS.HeadHook1
import HandS.ExcField
import HandS.ExcSuper
import KE.KNest
import KE.KSuper
import KE.KTryMore
import KE.KIsAll
import KE.KOpsOwn
import HandS.ExcInit
import HandS.Lambda
import PySem.Challenge.RW_joineddeals_k09_texts_there_and_back
import HandS.Head0
import HandS.Head1
import HandS.Head2
import HandS.Conv
import HandS.TupAny
import HandS.SetFor
import KE.GoesMore
import KE.GoesEnum
import PyProof.Rows.ReprShort
import PyProof.Rows.RegFStrParts
import KE.KDictZip
import HandS.Zip0
import HandS.SortInts
import HandS.Property
import HandS.MakeKwOnly
import HandS.FStr
import HandS.RaiseMore
import HandS.ClsMeth
import OpenK.KOps
import OpenK.KMeth
import HandS.Deep
import HandS.HeadHook3
import HandS.MakeKw
import HandS.Star
import KE.KCallOwn
import KE.KFmtOwn
import PyProof.InstEq
import HandS.SortRule
import KE.KTupSum
import KE.SortData
import HandS.Style
import HandS.TupSets
import HandS.Text
import KE.KxText
import KE.KxAffix
import KE.SortKeyHeap
import HandS.SortKw
import HandS.Dict
import HandS.More
import KE.KDictPairs
import HandS.Strs
import HandS.TupMul
import HandS.GenYield
import HandS.GenList
import HandS.ExcIs
import HandS.HotCalls
import KE.KExcSuper
import HandS.EndTab
import HandS.NoneIn
import HandS.SlotsOwn
import HandS.DictTup
set_option Elab.async false
set_option linter.all false
set_option maxRecDepth 100000
set_option maxHeartbeats 0
/-! PLa: pure values, environments, stores; what expressions and statements compute, as plain functions. -/
namespace PL
open PySem PySem.Spec L2
/-- a value as a tree -/
inductive PV where
  | non
  | bl (b : Bool)
  | int (i : Int)
  | str (x : Str)
  | tup (l : List PV)
  | lst (l : List PV)
  | scr (l : List Int)
  | gl (n : Nat)
  | ins (c : Str) (ns : List Str) (vs : List PV)
  | cls (c : Str)
  | tud (l : List PV)
  | exn (a d : Nat) (c : Str) (ns : List Str) (vs : List PV)
/-- a thing that may change, in the store -/
inductive Cell where
  | lst (l : List PV)
  | ins (c : Str) (ns : List Str) (vs : List PV)
  | dead
  | dk (kvs : List (Int × PV))
  | dt (kvs : List (List (Int ⊕ Str) × PV))
  | tbl (x q : Str)
/-- what a name holds: nothing, a value, a list of its own -/
inductive EV where
  | non
  | val (v : PV)
  | own (l : List PV)
abbrev Env := List EV
abbrev Sto := List Cell
structure Ex where
  cls : Str
  fs : List (Str × PV) := []
inductive RE (α : Type) where
  | ok (a : α) (st : Sto)
  | exc (x : Ex) (st : Sto)
  | stuck
inductive RS where
  | nx (e : Env) (st : Sto)
  | rt (v : PV) (st : Sto)
  | bk (e : Env) (st : Sto)
  | ct (e : Env) (st : Sto)
  | exc (x : Ex) (e : Env) (st : Sto)
  | stuck
abbrev EF (α : Type) := Env → Sto → RE α
abbrev SF := Env → Sto → RS
abbrev Fn := List PV → Sto → RE PV
def RE.bind {α β : Type} (r : RE α) (f : α → Sto → RE β) : RE β := match r with
  | .ok a st => f a st
  | .exc x st => .exc x st
  | .stuck => .stuck
def RE.of {α : Type} (o : Option α) (st : Sto) : RE α := match o with
  | some a => .ok a st
  | none => .stuck
/-- no exception may leave -/
def RE.noE {α : Type} : RE α → RE α
  | .ok a st => .ok a st
  | _ => .stuck
/-- the longest list -/
def LINE : Nat := 16777216
/-! ### expressions -/
def eC (v : PV) : EF PV := fun _ st => .ok v st
def eVar (i : Nat) : EF PV := fun e st => match e[i]? with
  | some (.val v) => .ok v st
  | _ => .stuck
/-- a name's own list, lent -/
def eOwn (i : Nat) : EF PV := fun e st => match e[i]? with
  | some (.own l) => .ok (.lst l) st
  | _ => .stuck
def eOp (op : PV → PV → Option PV) (a b : EF PV) : EF PV := fun e st => (a e st).bind fun x st => (b e st).bind fun y st => .of (op x y) st
def eUn (op : PV → Option PV) (a : EF PV) : EF PV := fun e st => (a e st).bind fun x st => .of (op x) st
def aNil : EF (List PV) := fun _ st => .ok [] st
def aCons (a : EF PV) (r : EF (List PV)) : EF (List PV) := fun e st => (a e st).bind fun x st => (r e st).bind fun xs st => .ok (x :: xs) st
def eTup (a : EF (List PV)) : EF PV := fun e st => (a e st).bind fun xs st => if xs.length ≤ LINE then .ok (.tup xs) st else .stuck
/-- a new list's items, as a list that never changes -/
def eLst (a : EF (List PV)) : EF PV := fun e st => (a e st).bind fun xs st => .ok (.lst xs) st
/-- the items of a written list -/
def lDisp (a : EF (List PV)) : EF (List PV) := fun e st => (a e st).bind fun xs st => if xs.length ≤ LINE then .ok xs st else .stuck
/-- a built-in by its values -/
def eB (g : List PV → Option PV) (a : EF (List PV)) : EF PV := fun e st => (a e st).bind fun xs st => .of (g xs) st
def lB (g : List PV → Option (List PV)) (a : EF (List PV)) : EF (List PV) := fun e st => (a e st).bind fun xs st => .of (g xs) st
def eCall (F : Fn) (a : EF (List PV)) : EF PV := fun e st => (a e st).bind fun xs st => F xs st
def eIf (c : EF Bool) (a b : EF PV) : EF PV := fun e st => (c e st).bind fun k st => if k = true then a e st else b e st
def eAnd (a b : EF PV) : EF PV := fun e st => (a e st).bind fun x st => match x with
  | .bl true => b e st
  | .bl false => .ok (.bl false) st
  | _ => .stuck
def eOr (a b : EF PV) : EF PV := fun e st => (a e st).bind fun x st => match x with
  | .bl true => .ok (.bl true) st
  | .bl false => b e st
  | _ => .stuck
def eNot (a : EF PV) : EF PV := fun e st => (a e st).bind fun x st => match x with
  | .bl k => .ok (.bl (!k)) st
  | _ => .stuck
def eChain (op op' : PV → PV → Option PV) (a b c : EF PV) : EF PV := fun e st => (a e st).bind fun x st => (b e st).bind fun y st => match op x y with
  | some (.bl true) => (c e st).bind fun z st => .of (op' y z) st
  | some (.bl false) => .ok (.bl false) st
  | _ => .stuck
/-! ### tests -/
def tV (a : EF PV) : EF Bool := fun e st => (a e st).bind fun x st => match x with
  | .bl k => .ok k st
  | _ => .stuck
def tAndF (a b : EF Bool) : EF Bool := fun e st => (a e st).bind fun k st => if k = true then b e st else .ok false st
def tOrF (a b : EF Bool) : EF Bool := fun e st => (a e st).bind fun k st => if k = true then .ok true st else b e st
def tNotF (a : EF Bool) : EF Bool := fun e st => (a e st).bind fun k st => .ok (!k) st
/-! ### targets -/
abbrev BF := PV → Env → Option Env
def bName (i : Nat) : BF := fun v e => if i < e.length then some (e.set i (.val v)) else none
def bSeq : List BF → List PV → Env → Option Env
  | [], [], e => some e
  | b :: bs, v :: vs, e => match b v e with
    | some e1 => bSeq bs vs e1
    | none => none
  | _, _, _ => none
def bTup (bs : List BF) : BF := fun v e => match v with
  | .tup l => bSeq bs l e
  | _ => none
/-! ### comprehensions -/
def wipeE (e : Env) : List Nat → Env
  | [] => e
  | v :: vs => (wipeE e vs).set v .non
def lcLoop (b : BF) (c : EF Bool) (t : EF PV) (e : Env) : List PV → Sto → RE (List PV)
  | [], st => .ok [] st
  | x :: xs, st => match b x e with
    | none => .stuck
    | some e1 => (c e1 st).noE.bind fun k st => if k = true then (t e1 st).noE.bind fun y st => (lcLoop b c t e xs st).bind fun ys st => .ok (y :: ys) st else lcLoop b c t e xs st
def lLc (it : EF (List PV)) (b : BF) (vs : List Nat) (c : EF Bool) (t : EF PV) : EF (List PV) := fun e st => (it e st).bind fun xs st => lcLoop b c t (wipeE e vs) xs st
def tYesF : EF Bool := fun _ st => .ok true st
/-! ### statements -/
def RE.toS {α : Type} (r : RE α) (e : Env) (f : α → Sto → RS) : RS := match r with
  | .ok a st => f a st
  | .exc x st => .exc x e st
  | .stuck => .stuck
def RS.thn (r : RS) (f : Env → Sto → RS) : RS := match r with
  | .nx e st => f e st
  | r => r
def sNil : SF := fun e st => .nx e st
def sSeq (a b : SF) : SF := fun e st => (a e st).thn b
def sAsg (b : BF) (a : EF PV) : SF := fun e st => (a e st).toS e fun v st => match b v e with
  | some e1 => .nx e1 st
  | none => .stuck
def sAsgO (i : Nat) (a : EF (List PV)) : SF := fun e st => (a e st).toS e fun l st => if i < e.length then .nx (e.set i (.own l)) st else .stuck
def sDrop (a : EF PV) : SF := fun e st => (a e st).toS e fun _ st => .nx e st
def sRet (a : EF PV) : SF := fun e st => (a e st).toS e fun v st => .rt v st
def sRetN : SF := fun _ st => .rt .non st
/-- a new thing of the store is handed back -/
def sRetG (a : EF (List PV)) : SF := fun e st => (a e st).toS e fun l st => .rt (.gl st.length) (st ++ [.lst l])
/-- a name's own list is handed back -/
def sRetO (i : Nat) : SF := fun e st => match e[i]? with
  | some (.own l) => .rt (.lst l) st
  | _ => .stuck
def sIf (c : EF Bool) (a b : SF) : SF := fun e st => (c e st).toS e fun k st => if k = true then a e st else b e st
/-- a name's own list becomes a list that never changes -/
def sFrz (i : Nat) : SF := fun e st => match e[i]? with
  | some (.own l) => .nx (e.set i (.val (.lst l))) st
  | _ => .nx e st
def sApp (i : Nat) (a : EF PV) : SF := fun e st => match e[i]? with
  | some (.own l) => (a e st).toS e fun v st => if l.length < LINE then .nx (e.set i (.own (l ++ [v]))) st else .stuck
  | _ => .stuck
def sExt (i : Nat) (a : EF (List PV)) : SF := fun e st => match e[i]? with
  | some (.own l) => (a e st).toS e fun m st => if l.length + m.length ≤ LINE then .nx (e.set i (.own (l ++ m))) st else .stuck
  | _ => .stuck
/-- a[k] = v, a thing of the store -/
def sSetG (a k v : EF PV) : SF := fun e st => (v e st).toS e fun v st => (a e st).toS e fun a st => (k e st).toS e fun k st => match a, k with
  | .gl n, .int i => match st[n]? with
    | some (.lst l) => match ixN l.length i with
      | some j => .nx e (st.set n (.lst (l.set j v)))
      | none => .stuck
    | _ => .stuck
  | _, _ => .stuck
/-- a[k]: of a tuple, a list, the script, a thing of the store -/
def ixF (st : Sto) : PV → Int → Option PV
  | .tup l, i => atI l i
  | .lst l, i => atI l i
  | .scr l, i => (atI l i).map PV.int
  | .gl n, i => match st[n]? with
    | some (.lst l) => atI l i
    | _ => none
  | _, _ => none
def eIx (a k : EF PV) : EF PV := fun e st => (a e st).bind fun a st => (k e st).bind fun k st => match k with
  | .int i => .of (ixF st a i) st
  | _ => .stuck
def forLoop (b : BF) (t : SF) : List PV → Env → Sto → RS
  | [], e, st => .nx e st
  | x :: xs, e, st => match b x e with
    | none => .stuck
    | some e1 => match t e1 st with
      | .nx e2 st2 => forLoop b t xs e2 st2
      | .ct e2 st2 => forLoop b t xs e2 st2
      | .bk e2 st2 => .nx e2 st2
      | r => r
def sFor (it : EF (List PV)) (b : BF) (t : SF) : SF := fun e st => (it e st).toS e fun xs st => forLoop b t xs e st
def whileLoop (c : EF Bool) (t : SF) : Nat → Env → Sto → RS
  | 0, _, _ => .stuck
  | n + 1, e, st => (c e st).toS e fun k st => if k = true then match t e st with
      | .nx e2 st2 => whileLoop c t n e2 st2
      | .ct e2 st2 => whileLoop c t n e2 st2
      | .bk e2 st2 => .nx e2 st2
      | r => r
    else .nx e st
def sWhile (n : Nat) (c : EF Bool) (t : SF) : SF := fun e st => whileLoop c t n e st
def sNever : SF := fun _ _ => .stuck
/-- a def's function: its parameters first, m names in all -/
def mkFn (m : Nat) (body : SF) : Fn := fun vs st => match body (vs.map .val ++ List.replicate (m - vs.length) .non) st with
  | .nx _ st => .ok .non st
  | .rt v st => .ok v st
  | .exc x _ st => .exc x st
  | _ => .stuck
end PL
/-! PK0: what the head looks at: plain functions of the fragment (told first, so that the head can be run first). -/
namespace PL
open PySem PySem.Spec PyProof.Rows L2 LamX
abbrev Chk := PySem.W.Frag → Bool
/-- List.map by another name: the kernel is not to compare the two functions -/
def mapL {α β : Type} (f : α → β) : List α → List β
  | [] => []
  | a :: r => f a :: mapL f r
def obsP (fs : List Chk) (fn : List He5.DefA) (K : PySem.W.Frag) : He.AlD := (fs.all (fun f => f K) && fn.all fun d => d.ok K, mapL (fun d => He5.fnA K (d.at_ K)) fn)
def valP (fn : List He5.DefA) : He.AlD := (true, fn.map He5.DefA.val)
def SaysP (fs : List Chk) (fn : List He5.DefA) (K : PySem.W.Frag) : Prop := obsP fs fn K = valP fn
/-- a class's own entry that is an object: a property, a classmethod -/
def entA (K : PySem.W.Frag) (c f : Str) : Addr := He.ma K (He.ga K c) f
def chkProp (c f : Str) : Chk := fun K => decide (PySem.W.findIn K (.ref (He.ga K c)) f = some (some (.ref (entA K c f)))) &&
  (decide (PySem.W.specialIn K (.ref (entA K c f)) "__get__" = some (some (.builtin "property.__get__"))) && (decide (PySem.W.takesIn K (.ref (entA K c f)) = some true) &&
  (match PySem.W.recIn K (entA K c f) "property" with
    | some (.ref g :: _) => true
    | _ => false)))
def prA (K : PySem.W.Frag) (c f : Str) : Addr := match PySem.W.recIn K (entA K c f) "property" with
  | some (.ref g :: _) => g
  | _ => 0
def chkIns (c : Str) : Chk := fun K => (He.Fa.cls c).ok K && (decide (PySem.W.findIn K (.ref (He.ga K c)) "__class__" = some (some (.builtin "object.__class__"))) &&
  (decide (PySem.W.specialIn K (.builtin "object.__class__") "__get__" = some (some (.builtin "getset_descriptor.__get__"))) && (decide (PySem.W.takesIn K (.builtin "object.__class__") = some true) &&
  decide (PySem.W.mroIn K (He.ga K c) (.type "object") = some true))))
def chkIsO (c0 : Str) (cs : List (Str × Bool)) : Chk := fun K => (["NoneType", "bool", "int", "str", "tuple", "list"].all fun T => decide (PySem.W.kitOne K (.type T) (.ref (He.ga K c0)) = some false)) &&
  cs.all fun q => chkIns q.1 K && decide (PySem.W.kitOne K (.ref (He.ga K q.1)) (.ref (He.ga K c0)) = some q.2)
def chkCRd (c : Str) : Chk := fun K => PySem.W.readsIn K (He.ga K c) (.type "type") && decide (PySem.W.specialIn K (.ref (He.ga K c)) "__getattribute__" = some (some (.builtin "type.__getattribute__")))
/-- an empty tuple of the text's own -/
def chkTup0 (a : PySem.W.Frag → Addr) : Chk := fun K => match K.lookup (a K) with
  | some ⟨.type c, _, .seq its _, _⟩ => decide (c = "tuple") && its.isEmpty
  | _ => false
def entC (K : PySem.W.Frag) (c f : Str) : Addr := match PySem.W.findCls K (.ref (He.ga K c)) (.type "type") f with
  | some (.get _ (.ref p) _ _) => p
  | _ => 0
def cmA (K : PySem.W.Frag) (c f : Str) : Addr := match PySem.W.recIn K (entC K c f) "classmethod" with
  | some (.ref g :: _) => g
  | _ => 0
def chkCMet (c f : Str) : Chk := fun K => (match PySem.W.findCls K (.ref (He.ga K c)) (.type "type") f with
  | some (.get g (.ref p) n d) => decide (g = .builtin "classmethod.__get__" ∧ n = .none ∧ d = .ref (He.ga K c))
  | _ => false) && ((match PySem.W.recIn K (entC K c f) "classmethod" with
    | some (.ref g :: _) => true
    | _ => false) && PySem.W.fnIn K (cmA K c f))
/-- what an object names, as far as defs and classes go -/
def refsQ (o : Obj) : List Addr := match o.data with
  | .dict es _ => es.toList.flatMap fun e => He.refV e.val
  | .func fd => He.refV fd.code ++ He.refV fd.defaults
  | .cls cd => [cd.ns]
  | .seq its _ => its.toList.flatMap He.refV
  | .fields vs => vs.toList.flatMap He.refV
  | _ => []
def nextQ (g : Addr → Option Obj) (as : List Addr) : List Addr := as.flatMap fun a => match g a with
  | some o => refsQ o
  | none => []
/-- as, what they name, .. -/
def reachQ (g : Addr → Option Obj) : Nat → List Addr → List Addr
  | 0, as => as
  | n + 1, as => as ++ reachQ g n (nextQ g as)
def asQ (g : Addr → Option Obj) : List Addr := reachQ g 5 [mainGlobals] ++ [cStatics]
def obsQ (fs : List Chk) (fn : List He5.DefA) (g : Addr → Option Obj) : He.AlD := obsP fs fn (He.frG g (asQ g))
def hookQ (fs : List Chk) (fn : List He5.DefA) : PySem.W.Hook where
  α := He.AlD
  obs := fun s => obsQ fs fn s.heap.get?
  val := fun _ => valP fn
  says := fun _ h => ∃ K : PySem.W.Frag, K.In h ∧ SaysP fs fn K
  of := fun _ _ e => ⟨_, He.frG_in, e⟩
  keeps := fun _ _ _ ⟨K, hK, c⟩ k => ⟨K, PySem.W.Frag.In.keeps hK k, c⟩
def veB : List Value := [.type "ValueError", .type "Exception", .type "BaseException", .type "object"]
def cloA (K : PySem.W.Frag) (a : Addr) : Addr := match K.lookup a with
  | some ⟨_, _, .func fd, _⟩ => (match fd.closure with
    | [(_, c)] => c
    | _ => 0)
  | _ => 0
def fnI (K : PySem.W.Frag) (a : Addr) : He5.FnW := match K.lookup a with
  | some ⟨_, _, .func fd, _⟩ => some (fd.name, fd.qualname, fd.params, fd.body, fd.scope, fd.globals, [], fd.builtins)
  | _ => none
def okI (K : PySem.W.Frag) (d : He5.DefA) : Bool := d.ok K && (match K.lookup (d.at_ K) with
  | some ⟨_, _, .func fd, _⟩ => decide (fd.closure = [(("__class__" : Str), cloA K (d.at_ K))])
  | _ => false)
def obsS (fs : List Chk) (fn fi : List He5.DefA) (K : PySem.W.Frag) : He.AlD := (fs.all (fun f => f K) && ((fn.all fun d => d.ok K) && fi.all fun d => okI K d), mapL (fun d => He5.fnA K (d.at_ K)) fn ++ mapL (fun d => fnI K (d.at_ K)) fi)
def valS (fn fi : List He5.DefA) : He.AlD := (true, fn.map He5.DefA.val ++ fi.map He5.DefA.val)
def SaysS (fs : List Chk) (fn fi : List He5.DefA) (K : PySem.W.Frag) : Prop := obsS fs fn fi K = valS fn fi
/-- the __init__ of the class c -/
def initA (K : PySem.W.Frag) (c : Str) : Addr := He.ma K (He.ga K c) "__init__"
def codeFileB (K : PySem.W.Frag) (a : Addr) (file : Str) : Bool := match K.lookup a with
  | some ⟨_, _, .func fd, _⟩ => (match fd.code with
    | .ref c => (match K.lookup c with
      | some ⟨_, _, .fields vs, _⟩ => (match (vs[2]? : Option Value) with
        | some (.str z _) => decide (z = file)
        | _ => false)
      | _ => false)
    | _ => false)
  | _ => false
def chkBin (c0 : Str) (op : Operator) (T : String) : Chk := fun K => PySem.W.selfFirst K (He.ga K c0) && (decide (PySem.W.findIn K (.ref (He.ga K c0)) (PySem.dunderR op.info.2) = some none) && ((PySem.W.findIn K (.type T) (PySem.dunder op.info.2)).isSome && ((PySem.W.findIn K (.type T) (PySem.dunderR op.info.2)).isSome && decide (PySem.W.subIn K (.type T) (.ref (He.ga K c0)) = some false))))
theorem map2 {α β γ δ : Type} {o : Option α} {f : α → β} {g : α → γ} {h : α → δ} {b : β} {c : γ} {d : δ} (h1 : o.map (fun s => (f s, g s)) = some (b, c)) (h3 : o.map h = some d) : o.map (fun s => (f s, g s, h s)) = some (b, c, d) := by
  cases o with
  | none => cases h1
  | some s =>
    cases h1
    cases h3
    rfl
/-- isinstance of instances of these classes against the built-in types -/
def chkTys (cls : List Str) : Chk := fun K => cls.all fun c => chkIns c K && (["int", "bool", "tuple", "list", "str"].all fun T => decide (PySem.W.kitOne K (.ref (He.ga K c)) (.type T) = some false))
theorem obsQ_eq {fs : List Chk} {fn : List He5.DefA} {g : Addr → Option Obj} {s : Shared} (h : ∀ a, g a = s.heap.get? a) : obsQ fs fn g = (hookQ fs fn).obs s := by
  have e : g = s.heap.get? := funext h
  rw [e] <;> rfl
end PL
namespace Q09
open PySem PySem.Spec PyProof.Rows L2 PL
def top (i : Nat) : Stmt := PySem.Challenge.pw_joineddeals_k09_texts_there_and_back.main.body.getD i (.Pass ⟨0, 0, 0, 0⟩)
def bodyC : Stmt → List Stmt
  | .ClassDef _ _ _ b .. => b
  | _ => []
def meth (i j : Nat) : Stmt := (bodyC (top i)).getD j (.Pass ⟨0, 0, 0, 0⟩)
abbrev FnQ (K : PySem.W.Frag) (x q : Str) (st : Stmt) (dvs : List V) (f : Addr) (fd : FuncData) : Prop := FunD K x q (defArgs st) (defBody st) (defScope st) dvs [] f fd
def mkA (a : PySem.W.Frag → Addr) (n q : Str) (st : Stmt) (d : List He.Dv) : He5.DefA := ⟨a, n, q, defArgs st, defBody st, defScope st, d, []⟩
def d__law_cell_at : He5.DefA := mkA (fun K => He.ga K "_law_cell_at") "_law_cell_at" "_law_cell_at" (top 57) []
def d__law_pen : He5.DefA := mkA (fun K => He.ga K "_law_pen") "_law_pen" "_law_pen" (top 58) []
def d__law_draw : He5.DefA := mkA (fun K => He.ga K "_law_draw") "_law_draw" "_law_draw" (top 55) []
def d__law_pick : He5.DefA := mkA (fun K => He.ga K "_law_pick") "_law_pick" "_law_pick" (top 59) []
def d__law_deal : He5.DefA := mkA (fun K => He.ga K "_law_deal") "_law_deal" "_law_deal" (top 56) []
def d__law_mixed : He5.DefA := mkA (fun K => He.ga K "_law_mixed") "_law_mixed" "_law_mixed" (top 60) []
def d__law_groups : He5.DefA := mkA (fun K => He.ga K "_law_groups") "_law_groups" "_law_groups" (top 61) []
def d__law_receipt : He5.DefA := mkA (fun K => He.ga K "_law_receipt") "_law_receipt" "_law_receipt" (top 62) []
def d__law_text : He5.DefA := mkA (fun K => He.ga K "_law_text") "_law_text" "_law_text" (top 63) []
def d__law_due : He5.DefA := mkA (fun K => He.ga K "_law_due") "_law_due" "_law_due" (top 64) []
def d_number_in : He5.DefA := mkA (fun K => He.ga K "number_in") "number_in" "number_in" (top 35) []
def d_numbers_in : He5.DefA := mkA (fun K => He.ga K "numbers_in") "numbers_in" "numbers_in" (top 36) []
def d_deal_in : He5.DefA := mkA (fun K => He.ga K "deal_in") "deal_in" "deal_in" (top 37) []
def d_group_in : He5.DefA := mkA (fun K => He.ga K "group_in") "group_in" "group_in" (top 38) []
def d_numbers_text : He5.DefA := mkA (fun K => He.ga K "numbers_text") "numbers_text" "numbers_text" (top 33) []
def d_receipt_lines : He5.DefA := mkA (fun K => He.ga K "receipt_lines") "receipt_lines" "receipt_lines" (top 34) []
def d_parts_in : He5.DefA := mkA (fun K => He.ga K "parts_in") "parts_in" "parts_in" (top 39) []
def d_is_integer : He5.DefA := mkA (fun K => He.ga K "is_integer") "is_integer" "is_integer" (top 19) []
def d_is_between : He5.DefA := mkA (fun K => He.ga K "is_between") "is_between" "is_between" (top 20) []
def d_are_prices : He5.DefA := mkA (fun K => He.ga K "are_prices") "are_prices" "are_prices" (top 41) []
def d_is_pair : He5.DefA := mkA (fun K => He.ga K "is_pair") "is_pair" "is_pair" (top 23) []
def d_is_offer : He5.DefA := mkA (fun K => He.ga K "is_offer") "is_offer" "is_offer" (top 42) []
def d_rises : He5.DefA := mkA (fun K => He.ga K "rises") "rises" "rises" (top 21) []
def d_is_deal : He5.DefA := mkA (fun K => He.ga K "is_deal") "is_deal" "is_deal" (top 43) []
def d_are_deals : He5.DefA := mkA (fun K => He.ga K "are_deals") "are_deals" "are_deals" (top 44) []
def d_is_set : He5.DefA := mkA (fun K => He.ga K "is_set") "is_set" "is_set" (top 22) []
def d_is_group : He5.DefA := mkA (fun K => He.ga K "is_group") "is_group" "is_group" (top 45) []
def d_are_groups : He5.DefA := mkA (fun K => He.ga K "are_groups") "are_groups" "are_groups" (top 46) []
def d_are_apart : He5.DefA := mkA (fun K => He.ga K "are_apart") "are_apart" "are_apart" (top 24) []
def d_is_inside : He5.DefA := mkA (fun K => He.ga K "is_inside") "is_inside" "is_inside" (top 25) []
def d_do_cross : He5.DefA := mkA (fun K => He.ga K "do_cross") "do_cross" "do_cross" (top 47) []
def d_first_crossed : He5.DefA := mkA (fun K => He.ga K "first_crossed") "first_crossed" "first_crossed" (top 48) []
def d_Receipt___init__ : He5.DefA := mkA (fun K => (He.ma K (He.ga K "Receipt") "__init__")) "__init__" "Receipt.__init__" (meth 49 1) [.adr (He.dflAt ("Receipt", some "__init__") 0), .adr (He.dflAt ("Receipt", some "__init__") 1)]
def d_Receipt_read : He5.DefA := mkA (fun K => (cmA K "Receipt" "read")) "read" "Receipt.read" (meth 49 2) []
def d_Receipt_total : He5.DefA := mkA (fun K => (prA K "Receipt" "total")) "total" "Receipt.total" (meth 49 7) []
def d_Receipt_groups : He5.DefA := mkA (fun K => (prA K "Receipt" "groups")) "groups" "Receipt.groups" (meth 49 6) []
def d_Receipt_deals : He5.DefA := mkA (fun K => (prA K "Receipt" "deals")) "deals" "Receipt.deals" (meth 49 5) []
def d_Receipt_prices : He5.DefA := mkA (fun K => (prA K "Receipt" "prices")) "prices" "Receipt.prices" (meth 49 4) []
def d_Receipt_text : He5.DefA := mkA (fun K => (He.ma K (He.ga K "Receipt") "text")) "text" "Receipt.text" (meth 49 3) []
def d_Receipt___repr__ : He5.DefA := mkA (fun K => (He.ma K (He.ga K "Receipt") "__repr__")) "__repr__" "Receipt.__repr__" (meth 49 18) []
def d_Receipt___len__ : He5.DefA := mkA (fun K => (He.ma K (He.ga K "Receipt") "__len__")) "__len__" "Receipt.__len__" (meth 49 10) []
def d__law_seen : He5.DefA := mkA (fun K => He.ga K "_law_seen") "_law_seen" "_law_seen" (top 66) []
def d__law_same : He5.DefA := mkA (fun K => He.ga K "_law_same") "_law_same" "_law_same" (top 65) []
def d_Receipt___add__ : He5.DefA := mkA (fun K => (He.ma K (He.ga K "Receipt") "__add__")) "__add__" "Receipt.__add__" (meth 49 14) []
def d_groups_without : He5.DefA := mkA (fun K => He.ga K "groups_without") "groups_without" "groups_without" (top 50) []
def d_Receipt___sub__ : He5.DefA := mkA (fun K => (He.ma K (He.ga K "Receipt") "__sub__")) "__sub__" "Receipt.__sub__" (meth 49 15) []
def d_Receipt_limited : He5.DefA := mkA (fun K => (He.ma K (He.ga K "Receipt") "limited")) "limited" "Receipt.limited" (meth 49 9) []
def d__law_family : He5.DefA := mkA (fun K => He.ga K "_law_family") "_law_family" "_law_family" (top 67) []
def d_Receipt___eq__ : He5.DefA := mkA (fun K => (He.ma K (He.ga K "Receipt") "__eq__")) "__eq__" "Receipt.__eq__" (meth 49 17) []
def d_law : He5.DefA := mkA (fun K => He.ga K "law") "law" "law" (top 68) []
def fn : List He5.DefA := [d__law_cell_at, d__law_pen, d__law_draw, d__law_pick, d__law_deal, d__law_mixed, d__law_groups, d__law_receipt, d__law_text, d__law_due, d_number_in, d_numbers_in, d_deal_in, d_group_in, d_numbers_text, d_receipt_lines, d_parts_in, d_is_integer, d_is_between, d_are_prices, d_is_pair, d_is_offer, d_rises, d_is_deal, d_are_deals, d_is_set, d_is_group, d_are_groups, d_are_apart, d_is_inside, d_do_cross, d_first_crossed, d_Receipt___init__, d_Receipt_read, d_Receipt_total, d_Receipt_groups, d_Receipt_deals, d_Receipt_prices, d_Receipt_text, d_Receipt___repr__, d_Receipt___len__, d__law_seen, d__law_same, d_Receipt___add__, d_groups_without, d_Receipt___sub__, d_Receipt_limited, d__law_family, d_Receipt___eq__, d_law]
def k_0 : Chk := fun K => (He.Fa.free "len").ok K
def k_1 : Chk := fun K => (He.Fa.free "max").ok K
def k_2 : Chk := fun K => (He.Fa.free "range").ok K
def k_3 : Chk := fun K => (He.Fa.free "tuple").ok K
def k_4 : Chk := fun K => (He.Fa.free "enumerate").ok K
def k_5 : Chk := fun K => (He.Fa.free "min").ok K
def k_6 : Chk := fun K => (He.Fa.free "sorted").ok K
def k_7 : Chk := fun K => (He.Fa.free "list").ok K
def k_8 : Chk := fun K => (He.Fa.free "str").ok K
def k_9 : Chk := fun K => (He.Fa.free "sum").ok K
def k_10 : Chk := fun K => (He.Fa.free "isinstance").ok K
def k_11 : Chk := fun K => (He.Fa.str "PRICES" "prices ").ok K
def k_12 : Chk := fun K => (He.Fa.free "all").ok K
def k_13 : Chk := fun K => (He.Fa.str "FIGURES" "0123456789").ok K
def k_14 : Chk := fun K => (He.Fa.free "int").ok K
def k_15 : Chk := fun K => (He.Fa.str "GROUP" "group ").ok K
def k_16 : Chk := fun K => (He.Fa.str "COLON" ":").ok K
def k_17 : Chk := fun K => (He.Fa.str "OF" " of ").ok K
def k_18 : Chk := fun K => (He.Fa.str "DEAL" "deal").ok K
def k_19 : Chk := fun K => (He.Fa.int "MOST_LINES" 5).ok K
def k_20 : Chk := fun K => (He.Fa.int "MOST_PRICE" 9999).ok K
def k_21 : Chk := fun K => (He.Fa.free "bool").ok K
def k_22 : Chk := fun K => (He.Fa.int "MOST_DEALS" 5).ok K
def k_23 : Chk := fun K => (He.Fa.free "zip").ok K
def k_24 : Chk := fun K => (He.Fa.int "MOST_GROUPS" 5).ok K
def k_25 : Chk := fun K => (He.Fa.int "MOST_LIMIT" 5).ok K
def k_26 : Chk := fun K => (He.Fa.free "any").ok K
def k_27 : Chk := fun K => (He.Fa.cls "Receipt").ok K
def k_28 : Chk := fun K => (He.Fa.noat "Receipt" "bounds").ok K
def k_29 : Chk := fun K => (He.Fa.noat "Receipt" "offers").ok K
def k_30 : Chk := fun K => (He.Fa.noat "Receipt" "costs").ok K
def k_31 : Chk := fun K => (He.Fa.glo "Receipt").ok K
def k_32 : Chk := fun K => (He.Fa.mkr "Receipt").ok K
def k_33 : Chk := chkCRd "Receipt"
def k_34 : Chk := chkCMet "Receipt" "read"
def k_35 : Chk := chkProp "Receipt" "total"
def k_36 : Chk := chkProp "Receipt" "groups"
def k_37 : Chk := chkProp "Receipt" "deals"
def k_38 : Chk := chkProp "Receipt" "prices"
def k_39 : Chk := fun K => (He.Fa.meth "Receipt" "text").ok K
def k_40 : Chk := fun K => (He.Fa.free "repr").ok K
def k_41 : Chk := fun K => (He.Fa.meth "Receipt" "__repr__").ok K
def k_42 : Chk := fun K => (He.Fa.meth "Receipt" "__len__").ok K
def k_43 : Chk := chkBin "Receipt" .Add "tuple"
def k_44 : Chk := fun K => (He.Fa.meth "Receipt" "__add__").ok K
def k_45 : Chk := chkBin "Receipt" .Sub "int"
def k_46 : Chk := fun K => (He.Fa.meth "Receipt" "__sub__").ok K
def k_47 : Chk := fun K => (He.Fa.meth "Receipt" "limited").ok K
def k_48 : Chk := chkIsO "Receipt" [("Receipt", true)]
def k_49 : Chk := fun K => (He.Fa.meth "Receipt" "__eq__").ok K
def k_50 : Chk := fun K => (He.Fa.glo "_law_cell_at").ok K
def k_51 : Chk := fun K => (He.Fa.glo "_law_pen").ok K
def k_52 : Chk := fun K => (He.Fa.glo "_law_draw").ok K
def k_53 : Chk := fun K => (He.Fa.glo "_law_pick").ok K
def k_54 : Chk := fun K => (He.Fa.glo "_law_deal").ok K
def k_55 : Chk := fun K => (He.Fa.glo "_law_mixed").ok K
def k_56 : Chk := fun K => (He.Fa.glo "_law_groups").ok K
def k_57 : Chk := fun K => (He.Fa.glo "_law_receipt").ok K
def k_58 : Chk := fun K => (He.Fa.glo "_law_text").ok K
def k_59 : Chk := fun K => (He.Fa.glo "_law_due").ok K
def k_60 : Chk := fun K => (He.Fa.glo "number_in").ok K
def k_61 : Chk := fun K => (He.Fa.glo "numbers_in").ok K
def k_62 : Chk := fun K => (He.Fa.glo "deal_in").ok K
def k_63 : Chk := fun K => (He.Fa.glo "group_in").ok K
def k_64 : Chk := fun K => (He.Fa.glo "numbers_text").ok K
def k_65 : Chk := fun K => (He.Fa.glo "receipt_lines").ok K
def k_66 : Chk := fun K => (He.Fa.glo "parts_in").ok K
def k_67 : Chk := fun K => (He.Fa.glo "is_integer").ok K
def k_68 : Chk := fun K => (He.Fa.glo "is_between").ok K
def k_69 : Chk := fun K => (He.Fa.glo "are_prices").ok K
def k_70 : Chk := fun K => (He.Fa.glo "is_pair").ok K
def k_71 : Chk := fun K => (He.Fa.glo "is_offer").ok K
def k_72 : Chk := fun K => (He.Fa.glo "rises").ok K
def k_73 : Chk := fun K => (He.Fa.glo "is_deal").ok K
def k_74 : Chk := fun K => (He.Fa.glo "are_deals").ok K
def k_75 : Chk := fun K => (He.Fa.glo "is_set").ok K
def k_76 : Chk := fun K => (He.Fa.glo "is_group").ok K
def k_77 : Chk := fun K => (He.Fa.glo "are_groups").ok K
def k_78 : Chk := fun K => (He.Fa.glo "are_apart").ok K
def k_79 : Chk := fun K => (He.Fa.glo "is_inside").ok K
def k_80 : Chk := fun K => (He.Fa.glo "do_cross").ok K
def k_81 : Chk := fun K => (He.Fa.glo "first_crossed").ok K
def k_82 : Chk := chkTup0 (He.dflAt ("Receipt", some "__init__") 0)
def k_83 : Chk := chkTup0 (He.dflAt ("Receipt", some "__init__") 1)
def k_84 : Chk := fun K => (He.Fa.glo "_law_seen").ok K
def k_85 : Chk := fun K => (He.Fa.glo "_law_same").ok K
def k_86 : Chk := fun K => (He.Fa.glo "groups_without").ok K
def k_87 : Chk := fun K => (He.Fa.glo "_law_family").ok K
def k_88 : Chk := fun K => (He.Fa.glo "law").ok K
def fa : List Chk := [k_0, k_1, k_2, k_3, k_4, k_5, k_6, k_7, k_8, k_9, k_10, k_11, k_12, k_13, k_14, k_15, k_16, k_17, k_18, k_19, k_20, k_21, k_22, k_23, k_24, k_25, k_26, k_27, k_28, k_29, k_30, k_31, k_32, k_33, k_34, k_35, k_36, k_37, k_38, k_39, k_40, k_41, k_42, k_43, k_44, k_45, k_46, k_47, k_48, k_49, k_50, k_51, k_52, k_53, k_54, k_55, k_56, k_57, k_58, k_59, k_60, k_61, k_62, k_63, k_64, k_65, k_66, k_67, k_68, k_69, k_70, k_71, k_72, k_73, k_74, k_75, k_76, k_77, k_78, k_79, k_80, k_81, k_82, k_83, k_84, k_85, k_86, k_87, k_88]
abbrev R : PySem.W.OpenRow := PySem.W.OpenLaw.row PySem.Challenge.rw_joineddeals_k09_texts_there_and_back
abbrev hk : PySem.W.Hook := hookQ fa fn
def ob (s : PySem.W.SharedT) : He.AlD := obsQ fa fn (HandSHeadRun.getT s)
theorem ob_eq (s : PySem.W.SharedT) : ob s = hk.obs s.abs := obsQ_eq (HandSHeadRun.getT_eq s)
def loose0 : List Str := ["__name__", "DealError", "NoPrices", "NoDeals", "NoGroups", "NoReceipt", "NoDeal", "NoLine", "NoGroup", "NoLimit", "NoText", "Crossed", "TooMany", "MOST_LINES", "MOST_DEALS", "MOST_GROUPS", "MOST_PRICE", "MOST_LIMIT", "is_integer", "is_between", "rises", "is_set", "is_pair", "are_apart", "is_inside", "PRICES", "DEAL", "GROUP", "OF", "COLON"]
def loose1 : List Str := ["FIGURES", "numbers_text", "receipt_lines", "number_in", "numbers_in", "deal_in", "group_in", "parts_in", "are_prices", "is_offer", "is_deal", "are_deals", "is_group", "are_groups", "do_cross", "first_crossed", "Receipt", "groups_without", "saving_of", "is_offered", "need_receipt", "_law_draw", "_law_deal", "_law_cell_at", "_law_pen", "_law_pick", "_law_mixed", "_law_groups", "_law_receipt", "_law_text"]
def loose2 : List Str := ["_law_due", "_law_same", "_law_seen", "_law_family"]
def loose : List Str := loose0 ++ loose1 ++ loose2
open PySem.W PySem.Calls in
theorem runA (w : World) (os : OsState) : ((HandSHeadRun.endF (HandSHeadRun.stepQ (HandSHeadRun.denQ HandSHeadRun.tabQ) R.prog w) 40000 R.prog w os).map fun s => (HandSHeadRun.looksF R.prog (boot_heap w.params) s.abs, HandSHeadRun.seenQ (PySem.W.view R.prog [68]) loose (PySem.importedModules R.prog.main.body) (fun s => PySem.W.xlAt (PySem.W.view R.prog [68]) [] s && PySem.W.recOk R.toRowW.records s) s.abs)) = some (true, PySem.W.openGood (PySem.W.view R.prog [68]) loose) := by kernel_rfl
theorem runC (w : World) (os : OsState) : ((HandSHeadRun.endF (HandSHeadRun.stepQ (HandSHeadRun.denQ HandSHeadRun.tabQ) R.prog w) 40000 R.prog w os).map fun s => ob s) = some (valP fn) := by kernel_rfl
theorem run (w : World) : HandSHeadRun.RunEq R (PySem.W.view R.prog [68]) hk ob 40000 loose w := fun os => PL.map2 (runA w os) (runC w os)
end Q09
/-! PLb: how pure values lie in the abstract heap; what an expression's and a statement's function says of its reading. -/
namespace PL
open PySem PySem.Spec L2
theorem LINE_eq : LINE = sizeLine := by rw [sizeLine_eq]; rfl
/-- the script, where it lies -/
def ScrAt (K : PySem.W.Frag) (N : Addr → Prop) (H : Hp) (a : Addr) (l : List Int) : Prop :=
  l.length ≤ LINE ∧ ((∃ o, H a = some (.frz o (.lst (l.map V.int))) ∧ ¬ N a) ∨
    ∃ (o : Obj) (its : Array Value) (n : Nat), K.lookup a = some o ∧ o.cls = .type "list" ∧ o.dict = none ∧ o.data = .seq its n ∧ its.size ≤ sizeLine ∧ Vals (l.map V.int) its.toList)
/-- a tuple: tracked, or one of the text's own -/
def TupAt (K : PySem.W.Frag) (N : Addr → Prop) (H : Hp) (a : Addr) (xs : List V) : Prop :=
  (¬ N a ∧ H a = some (.tup xs)) ∨ (xs = [] ∧ ∃ (o : Obj) (its : Array Value) (n : Nat), K.lookup a = some o ∧ o.cls = .type "tuple" ∧ o.data = .seq its n ∧ its.size ≤ sizeLine ∧ Vals xs its.toList)
/-- a tuple of which it is known that it has no dict -/
def TudAt (N : Addr → Prop) (H : Hp) (a : Addr) (xs : List V) : Prop := ¬ N a ∧ ∃ o : Obj, H a = some (.frz o (.tup xs)) ∧ o.dict = none
/-- an instance, that never changes: its class by name, its fields -/
def InsAt (K : PySem.W.Frag) (N : Addr → Prop) (H : Hp) (a : Addr) (c : Str) (ns : List Str) (ws : List V) : Prop :=
  ¬ N a ∧ ws.length = ns.length ∧ ∃ dx, H a = some (.ins (He.ga K c) dx (ns.zip ws))
mutual
/-- the value p is v: N tells what is not to be a part of values, ρ where the store's things lie -/
def RV (K : PySem.W.Frag) (N : Addr → Prop) (ρ : List Addr) (H : Hp) : PV → V → Prop
  | .non, v => v = .non
  | .bl b, v => v = .bl b
  | .int i, v => v = .int i
  | .str x, v => v = .str x
  | .tup l, v => ∃ a xs, v = .ref a ∧ TupAt K N H a xs ∧ xs.length ≤ LINE ∧ RVs K N ρ H l xs
  | .lst l, v => ∃ a xs, v = .ref a ∧ ¬ N a ∧ H a = some (.lst xs) ∧ xs.length ≤ LINE ∧ RVs K N ρ H l xs
  | .scr l, v => ∃ a, v = .ref a ∧ ScrAt K N H a l
  | .gl n, v => ∃ a, v = .ref a ∧ ρ[n]? = some a
  | .ins c ns l, v => ∃ a ws, v = .ref a ∧ InsAt K N H a c ns ws ∧ RVs K N ρ H l ws
  | .cls c, v => v = .ref (He.ga K c)
  | .tud l, v => ∃ a xs, v = .ref a ∧ TudAt N H a xs ∧ xs.length ≤ LINE ∧ RVs K N ρ H l xs
  | .exn a d c ns l, v => v = .ref a ∧ ((ns = [] ∧ l = []) ∨ ∃ ws, H d = some (.xd (ns.zip ws)) ∧ ¬ N d ∧ ws.length = ns.length ∧ RVs K N ρ H l ws)
def RVs (K : PySem.W.Frag) (N : Addr → Prop) (ρ : List Addr) (H : Hp) : List PV → List V → Prop
  | [], xs => xs = []
  | p :: ps, xs => ∃ v vs, xs = v :: vs ∧ RV K N ρ H p v ∧ RVs K N ρ H ps vs
end
/-- .. where a list may be one that changes later -/
def RVb (K : PySem.W.Frag) (N : Addr → Prop) (ρ : List Addr) (H : Hp) : PV → V → Prop
  | .lst l, v => ∃ a xs, v = .ref a ∧ H a = some (.lst xs) ∧ xs.length ≤ LINE ∧ RVs K N ρ H l xs
  | p, v => RV K N ρ H p v
section
variable {K : PySem.W.Frag} {N N' : Addr → Prop} {ρ ρ' : List Addr} {H H' : Hp}
theorem RV.b : ∀ {p : PV} {v : V}, RV K N ρ H p v → RVb K N ρ H p v
  | .non, _, h => h
  | .bl _, _, h => h
  | .int _, _, h => h
  | .str _, _, h => h
  | .tup _, _, h => h
  | .lst _, _, h => by
    unfold RV at h
    obtain ⟨a, xs, e, _, h1, h2, h3⟩ := h
    exact ⟨a, xs, e, h1, h2, h3⟩
  | .scr _, _, h => h
  | .gl _, _, h => h
  | .ins _ _ _, _, h => h
  | .cls _, _, h => h
  | .tud _, _, h => h
  | .exn _ _ _ _ _, _, h => h
mutual
theorem RV.carry (hN : ∀ a o, H a = some o → N' a → N a) (hk : ∀ a o, H a = some o → ¬ N a → H' a = some o) (hp : ρ <+: ρ') : ∀ (p : PV) (v : V), RV K N ρ H p v → RV K N' ρ' H' p v
  | .non, _, h => by unfold RV at h ⊢; exact h
  | .bl _, _, h => by unfold RV at h ⊢; exact h
  | .int _, _, h => by unfold RV at h ⊢; exact h
  | .str _, _, h => by unfold RV at h ⊢; exact h
  | .cls _, _, h => by unfold RV at h ⊢; exact h
  | .tup l, _, h => by
    unfold RV at h ⊢
    obtain ⟨a, xs, e, h1, h2, h3⟩ := h
    exact ⟨a, xs, e, h1.imp (fun ⟨n, h1⟩ => ⟨fun z => n (hN a _ h1 z), hk a _ h1 n⟩) id, h2, RVs.carry hN hk hp l xs h3⟩
  | .tud l, _, h => by
    unfold RV at h ⊢
    obtain ⟨a, xs, e, ⟨n, o, h1, hd⟩, h2, h3⟩ := h
    exact ⟨a, xs, e, ⟨fun z => n (hN a _ h1 z), o, hk a _ h1 n, hd⟩, h2, RVs.carry hN hk hp l xs h3⟩
  | .lst l, _, h => by
    unfold RV at h ⊢
    obtain ⟨a, xs, e, n, h1, h2, h3⟩ := h
    exact ⟨a, xs, e, fun z => n (hN a _ h1 z), hk a _ h1 n, h2, RVs.carry hN hk hp l xs h3⟩
  | .exn a d c ns l, _, h => by
    unfold RV at h ⊢
    obtain ⟨e, h⟩ := h
    refine ⟨e, ?_⟩
    rcases h with h | ⟨ws, h1, n, h2, h3⟩
    · exact .inl h
    · exact .inr ⟨ws, hk d _ h1 n, fun z => n (hN d _ h1 z), h2, RVs.carry hN hk hp l ws h3⟩
  | .scr l, _, h => by
    unfold RV at h ⊢
    obtain ⟨a, e, h1, h2⟩ := h
    refine ⟨a, e, h1, ?_⟩
    rcases h2 with ⟨o, h2, n⟩ | h2
    · exact .inl ⟨o, hk a _ h2 n, fun z => n (hN a _ h2 z)⟩
    · exact .inr h2
  | .gl n, _, h => by
    unfold RV at h ⊢
    obtain ⟨a, e, h1⟩ := h
    refine ⟨a, e, ?_⟩
    obtain ⟨r, rfl⟩ := hp
    rw [List.getElem?_append_left (List.getElem?_eq_some_iff.mp h1).1]
    exact h1
  | .ins c ns l, _, h => by
    unfold RV at h ⊢
    obtain ⟨a, ws, e, ⟨n, h1, dx, h2⟩, h3⟩ := h
    exact ⟨a, ws, e, ⟨fun z => n (hN a _ h2 z), h1, dx, hk a _ h2 n⟩, RVs.carry hN hk hp l ws h3⟩
theorem RVs.carry (hN : ∀ a o, H a = some o → N' a → N a) (hk : ∀ a o, H a = some o → ¬ N a → H' a = some o) (hp : ρ <+: ρ') : ∀ (l : List PV) (xs : List V), RVs K N ρ H l xs → RVs K N' ρ' H' l xs
  | [], _, h => by unfold RVs at h ⊢; exact h
  | p :: ps, _, h => by
    unfold RVs at h ⊢
    obtain ⟨v, vs, e, h1, h2⟩ := h
    exact ⟨v, vs, e, RV.carry hN hk hp p v h1, RVs.carry hN hk hp ps vs h2⟩
end
theorem RVs.nil : RVs K N ρ H [] [] := by unfold RVs; rfl
theorem RVs.cons {p : PV} {ps : List PV} {v : V} {vs : List V} (h : RV K N ρ H p v) (t : RVs K N ρ H ps vs) : RVs K N ρ H (p :: ps) (v :: vs) := by
  unfold RVs
  exact ⟨v, vs, rfl, h, t⟩
theorem RVs.uncons {p : PV} {ps : List PV} {xs : List V} (h : RVs K N ρ H (p :: ps) xs) : ∃ v vs, xs = v :: vs ∧ RV K N ρ H p v ∧ RVs K N ρ H ps vs := by
  unfold RVs at h
  exact h
theorem RVs.unnil {xs : List V} (h : RVs K N ρ H [] xs) : xs = [] := by
  unfold RVs at h
  exact h
theorem RVs.len : ∀ {l : List PV} {xs : List V}, RVs K N ρ H l xs → xs.length = l.length
  | [], _, h => by rw [h.unnil]; rfl
  | p :: ps, _, h => by
    obtain ⟨v, vs, rfl, _, t⟩ := h.uncons
    rw [List.length_cons, List.length_cons, RVs.len t]
theorem RVs.get : ∀ {l : List PV} {xs : List V} {i : Nat} {p : PV}, RVs K N ρ H l xs → l[i]? = some p → ∃ v, xs[i]? = some v ∧ RV K N ρ H p v
  | [], _, _, _, _, e => by simp at e
  | q :: ps, _, 0, p, h, e => by
    obtain ⟨v, vs, rfl, r, t⟩ := h.uncons
    have e' : q = p := by simpa using e
    subst e'
    exact ⟨v, rfl, r⟩
  | q :: ps, _, i + 1, p, h, e => by
    obtain ⟨v, vs, rfl, r, t⟩ := h.uncons
    obtain ⟨w, h1, h2⟩ := RVs.get (i := i) t (by simpa using e)
    exact ⟨w, by simpa using h1, h2⟩
theorem RVs.at : ∀ {l : List PV} {xs : List V} {i : Nat} {v : V}, RVs K N ρ H l xs → xs[i]? = some v → ∃ p, l[i]? = some p ∧ RV K N ρ H p v
  | [], _, _, _, h, e => by rw [h.unnil] at e; simp at e
  | q :: ps, _, 0, v, h, e => by
    obtain ⟨w, vs, rfl, r, t⟩ := h.uncons
    have e' : w = v := by simpa using e
    subst e'
    exact ⟨q, rfl, r⟩
  | q :: ps, _, i + 1, v, h, e => by
    obtain ⟨w, vs, rfl, r, t⟩ := h.uncons
    obtain ⟨p, h1, h2⟩ := RVs.at (i := i) t (by simpa using e)
    exact ⟨p, by simpa using h1, h2⟩
theorem RVs.append : ∀ {l m : List PV} {xs ys : List V}, RVs K N ρ H l xs → RVs K N ρ H m ys → RVs K N ρ H (l ++ m) (xs ++ ys)
  | [], _, _, _, h, k => by rw [h.unnil]; exact k
  | p :: ps, _, _, _, h, k => by
    obtain ⟨v, vs, rfl, r, t⟩ := h.uncons
    exact .cons r (RVs.append t k)
theorem RVs.drop : ∀ {l : List PV} {xs : List V} (n : Nat), RVs K N ρ H l xs → RVs K N ρ H (l.drop n) (xs.drop n)
  | _, _, 0, h => h
  | [], _, n + 1, h => by rw [h.unnil]; exact .nil
  | p :: ps, _, n + 1, h => by
    obtain ⟨v, vs, rfl, r, t⟩ := h.uncons
    exact RVs.drop n t
theorem RVs.take : ∀ {l : List PV} {xs : List V} (n : Nat), RVs K N ρ H l xs → RVs K N ρ H (l.take n) (xs.take n)
  | _, _, 0, _ => .nil
  | [], _, n + 1, h => by rw [h.unnil]; exact .nil
  | p :: ps, _, n + 1, h => by
    obtain ⟨v, vs, rfl, r, t⟩ := h.uncons
    exact .cons r (RVs.take n t)
theorem RVs.set {p : PV} {v : V} (r : RV K N ρ H p v) : ∀ {l : List PV} {xs : List V} (i : Nat), RVs K N ρ H l xs → RVs K N ρ H (l.set i p) (xs.set i v)
  | [], _, _, h => by rw [h.unnil]; exact .nil
  | q :: ps, _, 0, h => by
    obtain ⟨w, vs, rfl, _, t⟩ := h.uncons
    exact .cons r t
  | q :: ps, _, i + 1, h => by
    obtain ⟨w, vs, rfl, r', t⟩ := h.uncons
    exact .cons r' (RVs.set r i t)
theorem RVs.one {p : PV} {xs : List V} (h : RVs K N ρ H [p] xs) : ∃ v, xs = [v] ∧ RV K N ρ H p v := by
  obtain ⟨v, vs, rfl, r, t⟩ := h.uncons
  rw [t.unnil]
  exact ⟨v, rfl, r⟩
theorem RVs.two {p q : PV} {xs : List V} (h : RVs K N ρ H [p, q] xs) : ∃ v w, xs = [v, w] ∧ RV K N ρ H p v ∧ RV K N ρ H q w := by
  obtain ⟨v, vs, rfl, r, t⟩ := h.uncons
  obtain ⟨w, rfl, r'⟩ := t.one
  exact ⟨v, w, rfl, r, r'⟩
theorem RVs.ints : ∀ {l : List Int} {xs : List V}, RVs K N ρ H (l.map PV.int) xs → xs = l.map V.int
  | [], _, h => h.unnil
  | i :: l, _, h => by
    obtain ⟨v, vs, rfl, r, t⟩ := RVs.uncons h
    have e : v = .int i := by unfold RV at r; exact r
    rw [e, RVs.ints t]
    rfl
theorem RVs.bls : ∀ {l : List Bool} {xs : List V}, RVs K N ρ H (l.map PV.bl) xs → xs = l.map V.bl
  | [], _, h => h.unnil
  | i :: l, _, h => by
    obtain ⟨v, vs, rfl, r, t⟩ := RVs.uncons h
    have e : v = .bl i := by unfold RV at r; exact r
    rw [e, RVs.bls t]
    rfl
theorem RVs.ofInts : ∀ (l : List Int), RVs K N ρ H (l.map PV.int) (l.map V.int)
  | [] => .nil
  | i :: l => .cons (by unfold RV; rfl) (RVs.ofInts l)
theorem rv_int {i : Int} {v : V} (h : RV K N ρ H (.int i) v) : v = .int i := by unfold RV at h; exact h
theorem rv_bl {i : Bool} {v : V} (h : RV K N ρ H (.bl i) v) : v = .bl i := by unfold RV at h; exact h
theorem rv_non {v : V} (h : RV K N ρ H .non v) : v = .non := by unfold RV at h; exact h
theorem rv_str {i : Str} {v : V} (h : RV K N ρ H (.str i) v) : v = .str i := by unfold RV at h; exact h
theorem TupAt.sq {a : Addr} {xs : List V} (h : TupAt K N H a xs) : SqT K H a xs := h.elim (fun h => SqT.of h.2) fun h => .inr h.2
theorem TupAt.keep {M : Addr → Prop} {a : Addr} {xs : List V} (h : TupAt K N H a xs) (k : ∀ a o, H a = some o → ¬ M a → H' a = some o) (n : ∀ a, M a → N a) : SqT K H' a xs := h.elim (fun h => SqT.of (k a _ h.2 fun z => h.1 (n a z))) fun h => .inr h.2
theorem rv_tup {l : List PV} {v : V} (h : RV K N ρ H (.tup l) v) : ∃ a xs, v = .ref a ∧ TupAt K N H a xs ∧ xs.length ≤ LINE ∧ RVs K N ρ H l xs := by unfold RV at h; exact h
theorem TudAt.sq {a : Addr} {xs : List V} (h : TudAt N H a xs) : SqT K H a xs := let ⟨_, o, e, _⟩ := h; .inl (.inr ⟨o, e⟩)
theorem TudAt.keep {M : Addr → Prop} {a : Addr} {xs : List V} (h : TudAt N H a xs) (k : ∀ a o, H a = some o → ¬ M a → H' a = some o) (n : ∀ a, M a → N a) : SqT K H' a xs := let ⟨n', o, e, _⟩ := h; .inl (.inr ⟨o, k a _ e fun z => n' (n a z)⟩)
theorem rv_tud {l : List PV} {v : V} (h : RV K N ρ H (.tud l) v) : ∃ a xs, v = .ref a ∧ TudAt N H a xs ∧ xs.length ≤ LINE ∧ RVs K N ρ H l xs := by unfold RV at h; exact h
theorem mk_tud {l : List PV} {a : Addr} {xs : List V} (h : TudAt N H a xs) (z : xs.length ≤ LINE) (r : RVs K N ρ H l xs) : RV K N ρ H (.tud l) (.ref a) := by
  unfold RV
  exact ⟨a, xs, rfl, h, z, r⟩
theorem rv_exn {a d : Nat} {c : Str} {ns : List Str} {l : List PV} {v : V} (h : RV K N ρ H (.exn a d c ns l) v) : v = .ref a ∧ ((ns = [] ∧ l = []) ∨ ∃ ws, H d = some (.xd (ns.zip ws)) ∧ ¬ N d ∧ ws.length = ns.length ∧ RVs K N ρ H l ws) := by
  unfold RV at h
  exact h
theorem mk_exn {a d : Nat} {c : Str} {ns : List Str} {l : List PV} (h : (ns = [] ∧ l = []) ∨ ∃ ws, H d = some (.xd (ns.zip ws)) ∧ ¬ N d ∧ ws.length = ns.length ∧ RVs K N ρ H l ws) : RV K N ρ H (.exn a d c ns l) (.ref a) := by
  unfold RV
  exact ⟨rfl, h⟩
theorem rv_cls {c : Str} {v : V} (h : RV K N ρ H (.cls c) v) : v = .ref (He.ga K c) := by unfold RV at h; exact h
theorem mk_cls {c : Str} : RV K N ρ H (.cls c) (.ref (He.ga K c)) := by unfold RV; rfl
theorem rv_ins {c : Str} {ns : List Str} {l : List PV} {v : V} (h : RV K N ρ H (.ins c ns l) v) : ∃ a ws, v = .ref a ∧ InsAt K N H a c ns ws ∧ RVs K N ρ H l ws := by unfold RV at h; exact h
theorem mk_ins {c : Str} {ns : List Str} {l : List PV} {a : Addr} {ws : List V} (h : InsAt K N H a c ns ws) (r : RVs K N ρ H l ws) : RV K N ρ H (.ins c ns l) (.ref a) := by unfold RV; exact ⟨a, ws, rfl, h, r⟩
theorem mk_tupK {l : List PV} {a : Addr} {xs : List V} (h : TupAt K N H a xs) (z : xs.length ≤ LINE) (r : RVs K N ρ H l xs) : RV K N ρ H (.tup l) (.ref a) := by
  unfold RV
  exact ⟨a, xs, rfl, h, z, r⟩
theorem rv_lst {l : List PV} {v : V} (h : RV K N ρ H (.lst l) v) : ∃ a xs, v = .ref a ∧ ¬ N a ∧ H a = some (.lst xs) ∧ xs.length ≤ LINE ∧ RVs K N ρ H l xs := by unfold RV at h; exact h
theorem rv_scr {l : List Int} {v : V} (h : RV K N ρ H (.scr l) v) : ∃ a, v = .ref a ∧ ScrAt K N H a l := by unfold RV at h; exact h
theorem rv_gl {n : Nat} {v : V} (h : RV K N ρ H (.gl n) v) : ∃ a, v = .ref a ∧ ρ[n]? = some a := by unfold RV at h; exact h
theorem mk_int {i : Int} : RV K N ρ H (.int i) (.int i) := by unfold RV; rfl
theorem mk_bl {i : Bool} : RV K N ρ H (.bl i) (.bl i) := by unfold RV; rfl
theorem mk_non : RV K N ρ H .non .non := by unfold RV; rfl
theorem mk_str {i : Str} : RV K N ρ H (.str i) (.str i) := by unfold RV; rfl
theorem mk_tup {l : List PV} {a : Addr} {xs : List V} (n : ¬ N a) (h : H a = some (.tup xs)) (z : xs.length ≤ LINE) (r : RVs K N ρ H l xs) : RV K N ρ H (.tup l) (.ref a) := mk_tupK (.inl ⟨n, h⟩) z r
theorem mk_lst {l : List PV} {a : Addr} {xs : List V} (n : ¬ N a) (h : H a = some (.lst xs)) (z : xs.length ≤ LINE) (r : RVs K N ρ H l xs) : RV K N ρ H (.lst l) (.ref a) := by
  unfold RV
  exact ⟨a, xs, rfl, n, h, z, r⟩
theorem ScrAt.sq {a : Addr} {l : List Int} (h : ScrAt K N H a l) : SqL K H a (l.map V.int) := by
  obtain ⟨_, h⟩ := h
  rcases h with ⟨o, h, _⟩ | h
  · exact .inl (.inr ⟨o, h⟩)
  · exact .inr h
end
/-! ### heaps -/
/-- all that was tracked is as it was -/
def Ext (H H' : Hp) : Prop := ∀ a o, H a = some o → H' a = some o
theorem Ext.refl {H : Hp} : Ext H H := fun _ _ h => h
theorem Ext.trans {H H1 H2 : Hp} (a : Ext H H1) (b : Ext H1 H2) : Ext H H2 := fun c o h => b c o (a c o h)
theorem Ext.new {H : Hp} {p : Addr} {o : HO} (h : H p = none) : Ext H (upd H p o) := fun a u e => by
  rw [upd_ne (ne_of_none e h)]
  exact e
/-! ### environments and stores -/
def Owned (env : Env) (σ : St) (a : Addr) : Prop := ∃ (i : Nat) (l : List PV), env[i]? = some (.own l) ∧ σ[i]? = some (some (.ref a))
def Excl (B : Addr → Prop) (ρ : List Addr) (env : Env) (σ : St) (a : Addr) : Prop := B a ∨ a ∈ ρ ∨ Owned env σ a
def CellOk (K : PySem.W.Frag) (N : Addr → Prop) (ρ : List Addr) (H : Hp) : Cell → Addr → Prop
  | .lst l, a => ∃ xs, H a = some (.lst xs) ∧ xs.length ≤ LINE ∧ RVs K N ρ H l xs
  | .ins c ns l, a => ∃ dx ws, H a = some (.ins (He.ga K c) dx (ns.zip ws)) ∧ ¬ N dx ∧ H dx = some (.own a) ∧ ws.length = ns.length ∧ RVs K N ρ H l ws
  | .dead, _ => True
  | .dk kvs, a => ∃ us, H a = some (.dK us) ∧ us.map (·.1) = kvs.map (fun kv => (Sum.inl kv.1 : Key)) ∧ us.length ≤ LINE ∧ RVs K N ρ H (kvs.map (·.2)) (us.map (·.2))
  | .dt kvs, a => ∃ us, H a = some (.dT us) ∧ us.map (·.1) = kvs.map (·.1) ∧ us.length ≤ LINE ∧ RVs K N ρ H (kvs.map (·.2)) (us.map (·.2))
  | .tbl x q, a => ∃ c ps, PySem.W.tabIn K x = some (c, a) ∧ H a = some (.tbl ps) ∧ PySem.TriplesOk ps.toList ∧ ∀ (pos : PySem.Pos) cv, codeAmong pos ps.toList = some cv → ∃ c', cv = .ref c' ∧ ¬ N c' ∧ H c' = some (LamX.CodeO c' q)
theorem CellOk.carry {K : PySem.W.Frag} {N N' : Addr → Prop} {ρ ρ' : List Addr} {H H' : Hp} {c : Cell} {a : Addr} (h : CellOk K N ρ H c a) (hN : ∀ a o, H a = some o → N' a → N a) (hk : ∀ a o, H a = some o → ¬ N a → H' a = some o) (hp : ρ <+: ρ') (ha : ∀ o, H a = some o → H' a = some o) : CellOk K N' ρ' H' c a := by
  cases c with
  | dead => trivial
  | lst l =>
    obtain ⟨xs, q1, q2, q3⟩ := h
    exact ⟨xs, ha _ q1, q2, RVs.carry hN hk hp _ _ q3⟩
  | dk kvs =>
    obtain ⟨us, q1, q2, q3, q4⟩ := h
    exact ⟨us, ha _ q1, q2, q3, RVs.carry hN hk hp _ _ q4⟩
  | dt kvs =>
    obtain ⟨us, q1, q2, q3, q4⟩ := h
    exact ⟨us, ha _ q1, q2, q3, RVs.carry hN hk hp _ _ q4⟩
  | tbl x q =>
    obtain ⟨c, ps, q1, q2, q3, q4⟩ := h
    refine ⟨c, ps, q1, ha _ q2, q3, fun pos cv e => ?_⟩
    obtain ⟨c', k1, k2, k3⟩ := q4 pos cv e
    exact ⟨c', k1, fun z => k2 (hN _ _ k3 z), hk _ _ k3 k2⟩
  | ins c ns l =>
    obtain ⟨dx, ws, q1, q2, q3, q4, q5⟩ := h
    exact ⟨dx, ws, ha _ q1, fun z => q2 (hN _ _ q3 z), hk _ _ q3 q2, q4, RVs.carry hN hk hp _ _ q5⟩
def SlotOk (K : PySem.W.Frag) (N : Addr → Prop) (ρ : List Addr) (H : Hp) (σ : St) (i : Nat) : EV → Prop
  | .non => True
  | .val p => ∃ v, σ[i]? = some (some v) ∧ RV K N ρ H p v
  | .own l => ∃ a xs, σ[i]? = some (some (.ref a)) ∧ H a = some (.lst xs) ∧ xs.length ≤ LINE ∧ RVs K N ρ H l xs
/-- there, and no tuple -/
def NT (u : Option HO) : Prop := u ≠ none ∧ ∀ xs, u ≠ some (.tup xs)
theorem NT.keep {H H' : Hp} {a : Addr} (h : NT (H a)) (k : ∀ o, H a = some o → H' a = some o) : NT (H' a) := by
  cases e : H a with
  | none => exact absurd e h.1
  | some o => rw [k o e, ← e]; exact h
theorem NT.of {u : Option HO} {o : HO} (e : u = some o) (n : ∀ xs, o ≠ .tup xs) : NT u := ⟨fun z => (by rw [e] at z; cases z), fun xs z => (by rw [e] at z; cases z; exact n xs rfl)⟩
structure Rep (K : PySem.W.Frag) (B : Addr → Prop) (ρ : List Addr) (env : Env) (st : Sto) (σ : St) (H : Hp) : Prop where
  lenE : env.length = σ.length
  lenC : ρ.length = st.length
  nd : ρ.Nodup
  cell : ∀ (n : Nat) c a, st[n]? = some c → ρ[n]? = some a → CellOk K (Excl B ρ env σ) ρ H c a
  rT : ∀ a ∈ ρ, H a ≠ none
  rB : ∀ a ∈ ρ, ¬ B a
  bN : ∀ a, B a → NT (H a)
  slot : ∀ (i : Nat) e, env[i]? = some e → SlotOk K (Excl B ρ env σ) ρ H σ i e
  oR : ∀ a, Owned env σ a → a ∉ ρ ∧ ¬ B a
  sep : ∀ (i j : Nat) l l' a, env[i]? = some (.own l) → env[j]? = some (.own l') → σ[i]? = some (some (.ref a)) → σ[j]? = some (some (.ref a)) → i = j
section
variable {K : PySem.W.Frag} {B : Addr → Prop} {ρ ρ' ρ1 ρ2 : List Addr} {env env' env1 env2 : Env} {st st' st1 st2 : Sto} {σ σ' σ1 σ2 : St} {H H' H1 H2 : Hp}
theorem Rep.bT (R : Rep K B ρ env st σ H) (a : Addr) (h : B a) : H a ≠ none := (R.bN a h).1
theorem Rep.oT (R : Rep K B ρ env st σ H) {a : Addr} (h : Owned env σ a) : ∃ xs, H a = some (.lst xs) := by
  obtain ⟨i, l, h1, h2⟩ := h
  obtain ⟨b, xs, h3, h4, _⟩ := R.slot i _ h1
  rw [h2] at h3
  cases h3
  exact ⟨xs, h4⟩
theorem Rep.tr (R : Rep K B ρ env st σ H) {a : Addr} (h : Excl B ρ env σ a) : H a ≠ none := by
  rcases h with h | h | h
  · exact R.bT a h
  · exact R.rT a h
  · obtain ⟨xs, e⟩ := R.oT h
    rw [e]
    exact fun z => by cases z
theorem Rep.fresh (R : Rep K B ρ env st σ H) {p : Addr} (h : H p = none) : ¬ Excl B ρ env σ p := fun z => R.tr z h
/-- behind a statement -/
structure Post (K : PySem.W.Frag) (B : Addr → Prop) (ρ : List Addr) (env : Env) (σ : St) (H : Hp) (ρ' : List Addr) (env' : Env) (st' : Sto) (σ' : St) (H' : Hp) : Prop where
  rep : Rep K B ρ' env' st' σ' H'
  pre : ρ <+: ρ'
  kp : ∀ a o, H a = some o → a ∉ ρ → ¬ Owned env σ a → H' a = some o
  tr : ∀ a, H a ≠ none → H' a ≠ none
  fr : ∀ a ∈ ρ', a ∉ ρ → H a = none
  ow : ∀ a, Owned env' σ' a → Owned env σ a ∨ H a = none
/-- behind an expression -/
structure EPost (K : PySem.W.Frag) (B : Addr → Prop) (ρ : List Addr) (env : Env) (σ : St) (H : Hp) (ρ' : List Addr) (st' : Sto) (H' : Hp) : Prop where
  rep : Rep K B ρ' env st' σ H'
  pre : ρ <+: ρ'
  kp : ∀ a o, H a = some o → a ∉ ρ → H' a = some o
  tr : ∀ a, H a ≠ none → H' a ≠ none
  fr : ∀ a ∈ ρ', a ∉ ρ → H a = none
theorem EPost.post (E : EPost K B ρ env σ H ρ' st' H') : Post K B ρ env σ H ρ' env st' σ H' :=
  ⟨E.rep, E.pre, fun a o h n _ => E.kp a o h n, E.tr, E.fr, fun _ h => .inl h⟩
theorem EPost.refl (R : Rep K B ρ env st σ H) : EPost K B ρ env σ H ρ st H := ⟨R, List.prefix_rfl, fun _ _ h _ => h, fun _ h => h, fun _ h n => absurd h n⟩
theorem Post.refl (R : Rep K B ρ env st σ H) : Post K B ρ env σ H ρ env st σ H := (EPost.refl R).post
theorem EPost.trans (a : EPost K B ρ env σ H ρ1 st1 H1) (b : EPost K B ρ1 env σ H1 ρ2 st2 H2) : EPost K B ρ env σ H ρ2 st2 H2 where
  rep := b.rep
  pre := a.pre.trans b.pre
  kp := fun c o h n => b.kp c o (a.kp c o h n) fun z => by
    have q := a.fr c z n
    rw [h] at q
    cases q
  tr := fun c h => b.tr c (a.tr c h)
  fr := fun c hc n => by
    by_cases h1 : c ∈ ρ1
    · exact a.fr c h1 n
    · have q := b.fr c hc h1
      cases e : H c with
      | none => rfl
      | some o => exact absurd q (a.tr c (by rw [e]; exact fun z => by cases z))
theorem Post.trans (a : Post K B ρ env σ H ρ1 env1 st1 σ1 H1) (b : Post K B ρ1 env1 σ1 H1 ρ2 env2 st2 σ2 H2) : Post K B ρ env σ H ρ2 env2 st2 σ2 H2 where
  rep := b.rep
  pre := a.pre.trans b.pre
  kp := fun c o h n m => b.kp c o (a.kp c o h n m) (fun z => by
    have q := a.fr c z n
    rw [h] at q
    cases q) fun z => by
      rcases a.ow c z with q | q
      · exact m q
      · rw [h] at q
        cases q
  tr := fun c h => b.tr c (a.tr c h)
  fr := fun c hc n => by
    by_cases h1 : c ∈ ρ1
    · exact a.fr c h1 n
    · have q := b.fr c hc h1
      cases e : H c with
      | none => rfl
      | some o => exact absurd q (a.tr c (by rw [e]; exact fun z => by cases z))
  ow := fun c h => by
    rcases b.ow c h with q | q
    · exact a.ow c q
    · cases e : H c with
      | none => exact .inr rfl
      | some o => exact absurd q (a.tr c (by rw [e]; exact fun z => by cases z))
/-- a value stays what it is -/
theorem Post.rv (P : Post K B ρ env σ H ρ' env' st' σ' H') {p : PV} {v : V} (h : RV K (Excl B ρ env σ) ρ H p v) : RV K (Excl B ρ' env' σ') ρ' H' p v := by
  refine RV.carry (fun a o e n => ?_) (fun a o e n => P.kp a o e (fun z => n (.inr (.inl z))) fun z => n (.inr (.inr z))) P.pre p v h
  rcases n with n | n | n
  · exact .inl n
  · by_cases h1 : a ∈ ρ
    · exact .inr (.inl h1)
    · have q := P.fr a n h1
      rw [e] at q
      cases q
  · rcases P.ow a n with q | q
    · exact .inr (.inr q)
    · rw [e] at q
      cases q
theorem Post.rvs (P : Post K B ρ env σ H ρ' env' st' σ' H') {p : List PV} {v : List V} (h : RVs K (Excl B ρ env σ) ρ H p v) : RVs K (Excl B ρ' env' σ') ρ' H' p v := by
  refine RVs.carry (fun a o e n => ?_) (fun a o e n => P.kp a o e (fun z => n (.inr (.inl z))) fun z => n (.inr (.inr z))) P.pre p v h
  rcases n with n | n | n
  · exact .inl n
  · by_cases h1 : a ∈ ρ
    · exact .inr (.inl h1)
    · have q := P.fr a n h1
      rw [e] at q
      cases q
  · rcases P.ow a n with q | q
    · exact .inr (.inr q)
    · rw [e] at q
      cases q
/-- a lent list, behind an expression: its list stands, unless it is a thing of the store -/
theorem EPost.rvb (P : EPost K B ρ env σ H ρ' st' H') {p : PV} {v : V} (h : RVb K (Excl B ρ env σ) ρ H p v) (hl : ∀ a l, v = .ref a → p = .lst l → a ∉ ρ) : RVb K (Excl B ρ' env σ) ρ' H' p v := by
  cases p with
  | lst l =>
    obtain ⟨a, xs, e, h1, h2, h3⟩ := h
    exact ⟨a, xs, e, P.kp a _ h1 (hl a l e rfl), h2, P.post.rvs h3⟩
  | non => exact P.post.rv h
  | bl _ => exact P.post.rv h
  | int _ => exact P.post.rv h
  | str _ => exact P.post.rv h
  | tup _ => exact P.post.rv h
  | scr _ => exact P.post.rv h
  | gl _ => exact P.post.rv h
  | ins _ _ _ => exact P.post.rv h
  | cls _ => exact P.post.rv h
  | tud _ => exact P.post.rv h
  | exn _ _ _ _ _ => exact P.post.rv h
theorem Rep.ext (R : Rep K B ρ env st σ H) (E : Ext H H') : Rep K B ρ env st σ H' where
  lenE := R.lenE
  lenC := R.lenC
  nd := R.nd
  cell := fun n c a h1 h2 => by
    have q := R.cell n c a h1 h2
    exact q.carry (fun _ _ _ z => z) (fun a o e _ => E a o e) List.prefix_rfl fun o q1 => E _ _ q1
  rT := fun a h z => by
    cases e : H a with
    | none => exact R.rT a h e
    | some o => rw [E a o e] at z; cases z
  rB := R.rB
  bN := fun a h => (R.bN a h).keep fun o e => E a o e
  slot := fun i e h => by
    have q := R.slot i e h
    cases e with
    | non => trivial
    | val p =>
      obtain ⟨v, q1, q2⟩ := q
      exact ⟨v, q1, RV.carry (fun _ _ _ z => z) (fun a o e _ => E a o e) List.prefix_rfl _ _ q2⟩
    | own l =>
      obtain ⟨a, xs, q0, q1, q2, q3⟩ := q
      exact ⟨a, xs, q0, E _ _ q1, q2, RVs.carry (fun _ _ _ z => z) (fun a o e _ => E a o e) List.prefix_rfl _ _ q3⟩
  oR := R.oR
  sep := R.sep
theorem EPost.ext (R : Rep K B ρ env st σ H) (E : Ext H H') : EPost K B ρ env σ H ρ st H' :=
  ⟨R.ext E, List.prefix_rfl, fun a o h _ => E a o h, (fun a h z => by
    cases e : H a with
    | none => exact h e
    | some o => rw [E a o e] at z; cases z), fun _ h n => absurd h n⟩
/-! ### what a function says of a reading -/
/-- an exception as it flies -/
def ExR (K : PySem.W.Frag) (N : Addr → Prop) (ρ : List Addr) (H : Hp) (x : Ex) (cls : Value) (d : Option Addr) : Prop :=
  cls = .ref (He.ga K x.cls) ∧ ((x.fs = [] ∧ d = none) ∨ ∃ dd fvs, x.fs ≠ [] ∧ d = some dd ∧ H dd = some (.xd fvs) ∧ ¬ N dd ∧ fvs.map (·.1) = x.fs.map (·.1) ∧ RVs K N ρ H (x.fs.map (·.2)) (fvs.map (·.2)))
def ROk {α : Type} (K : PySem.W.Frag) (W : WX) (B : Addr → Prop) (ρ : List Addr) (env : Env) (σ : St) (H : Hp) (r : RE α) (Z : α → List Addr → Sto → Hp → Prop) : Prop := match r with
  | .ok a st' => ∀ ρ' H', EPost K B ρ env σ H ρ' st' H' → Z a ρ' st' H'
  | .exc x st' => ∀ ρ' H' cls d, EPost K B ρ env σ H ρ' st' H' → ExR K (Excl B ρ' env σ) ρ' H' x cls d → W cls d σ H'
  | .stuck => False
variable {W : WX} {α β : Type}
theorem ROk.shift {r : RE α} {Z : α → List Addr → Sto → Hp → Prop} (E : EPost K B ρ env σ H ρ1 st1 H1) (h : ROk K W B ρ env σ H r Z) : ROk K W B ρ1 env σ H1 r Z := by
  cases r with
  | ok a st' => exact fun ρ' H' E2 => h ρ' H' (E.trans E2)
  | exc x st' => exact fun ρ' H' cls d E2 => h ρ' H' cls d (E.trans E2)
  | stuck => exact h
theorem ROk.mono {r : RE α} {Z Z' : α → List Addr → Sto → Hp → Prop} (h : ROk K W B ρ env σ H r Z) (f : ∀ a ρ' st' H', EPost K B ρ env σ H ρ' st' H' → Z a ρ' st' H' → Z' a ρ' st' H') : ROk K W B ρ env σ H r Z' := by
  cases r with
  | ok a st' => exact fun ρ' H' E => f a ρ' st' H' E (h ρ' H' E)
  | exc x st' => exact h
  | stuck => exact h
theorem ROk.bind {r : RE α} {f : α → Sto → RE β} {Z : β → List Addr → Sto → Hp → Prop} (h : ROk K W B ρ env σ H (r.bind f) Z) :
    ROk K W B ρ env σ H r fun a ρ' st' H' => ROk K W B ρ' env σ H' (f a st') Z := by
  cases r with
  | ok a st' => exact fun ρ' H' E => ROk.shift E h
  | exc x st' => exact h
  | stuck => exact h
/-- an expression's function, its reading -/
def RefG (K : PySem.W.Frag) (W : WX) (t : TE) (f : EF PV) (VR : (Addr → Prop) → List Addr → Hp → PV → V → Prop) : Prop :=
  ∀ B ρ env st σ H Q, Rep K B ρ env st σ H → ROk K W B ρ env σ H (f env st) (fun p ρ' st' H' => ∀ u, VR (Excl B ρ' env σ) ρ' H' p u → Q u H') → t σ H Q
def ME (X : Cx) (W : WX) (e : Expr) (f : EF PV) : Prop := ∃ t, PE X e t ∧ RefG X.K W t f (RV X.K)
def MB (X : Cx) (W : WX) (e : Expr) (f : EF PV) : Prop := ∃ t, PE X e t ∧ RefG X.K W t f fun N ρ H p u => RVb X.K N ρ H p u ∧ ∀ a l, u = .ref a → p = .lst l → a ∉ ρ
/-- a new list: nothing else has it -/
def ML (X : Cx) (W : WX) (e : Expr) (f : EF (List PV)) : Prop := ∃ t, PE X e t ∧ ∀ B ρ env st σ H Q, Rep X.K B ρ env st σ H →
  ROk X.K W B ρ env σ H (f env st) (fun l ρ' st' H' => ∀ p xs H'', H' p = none → H'' = upd H' p (.lst xs) → xs.length ≤ LINE → RVs X.K (Excl B ρ' env σ) ρ' H' l xs → Q (.ref p) H'') → t σ H Q
def MA (X : Cx) (W : WX) (es : List Expr) (f : EF (List PV)) : Prop := ∃ t, PA X es t ∧ ∀ B ρ env st σ H Q, Rep X.K B ρ env st σ H →
  ROk X.K W B ρ env σ H (f env st) (fun l ρ' st' H' => ∀ us, RVs X.K (Excl B ρ' env σ) ρ' H' l us → Q us H') → t σ H Q
def MT (X : Cx) (W : WX) (e : Expr) (f : EF Bool) : Prop := ∃ t, PT X e t ∧ ∀ B ρ env st σ H Q, Rep X.K B ρ env st σ H →
  ROk X.K W B ρ env σ H (f env st) (fun k ρ' st' H' => Q k H') → t σ H Q
def MW (X : Cx) (W : WX) (e : Expr) (f : EF Bool) : Prop := ∃ t, PW X e t ∧ ∀ B ρ env st σ H Q, Rep X.K B ρ env st σ H →
  ROk X.K W B ρ env σ H (f env st) (fun k ρ' st' H' => Q k H') → t σ H Q
theorem ME.mb {X : Cx} {e : Expr} {f : EF PV} (h : ME X W e f) : MB X W e f := by
  obtain ⟨t, h1, h2⟩ := h
  refine ⟨t, h1, fun B ρ env st σ H Q R q => h2 B ρ env st σ H Q R (q.mono fun p ρ' st' H' E z u r => z u ⟨r.b, fun a l e1 e2 => ?_⟩)⟩
  subst e1 e2
  obtain ⟨b, xs, e3, n, _⟩ := rv_lst r
  cases e3
  exact fun z => n (.inr (.inl z))
theorem MW.mt {X : Cx} {e : Expr} {f : EF Bool} (h : MW X W e f) : MT X W e f := by
  obtain ⟨t, h1, h2⟩ := h
  exact ⟨t, h1.pt, h2⟩
/-- what follows a statement -/
def SOk (K : PySem.W.Frag) (W : WX) (B : Addr → Prop) (ρ : List Addr) (env : Env) (σ : St) (H : Hp) (r : RS) (D : Ends) : Prop := match r with
  | .nx e' st' => ∀ ρ' σ' H', Post K B ρ env σ H ρ' e' st' σ' H' → D.nx σ' H'
  | .bk e' st' => ∀ ρ' σ' H', Post K B ρ env σ H ρ' e' st' σ' H' → D.bk σ' H'
  | .ct e' st' => ∀ ρ' σ' H', Post K B ρ env σ H ρ' e' st' σ' H' → D.ct σ' H'
  | .rt v st' => ∀ ρ' e' σ' H' u, Post K B ρ env σ H ρ' e' st' σ' H' → RV K (Excl B ρ' [] []) ρ' H' v u → D.rt u H'
  | .exc x e' st' => ∀ ρ' σ' H' cls d, Post K B ρ env σ H ρ' e' st' σ' H' → ExR K (Excl B ρ' e' σ') ρ' H' x cls d → W cls d σ' H'
  | .stuck => False
def RefS (K : PySem.W.Frag) (W : WX) (t : TS) (f : SF) : Prop := ∀ B ρ env st σ H D, Rep K B ρ env st σ H → SOk K W B ρ env σ H (f env st) D → t D σ H
def MS (X : Cx) (W : WX) (s : Stmt) (f : SF) : Prop := ∃ t, PS X s t ∧ RefS X.K W t f
def MSs (X : Cx) (W : WX) (s : List Stmt) (f : SF) : Prop := ∃ t, PSs X s t ∧ RefS X.K W t f
theorem SOk.shift {r : RS} {D : Ends} (P : Post K B ρ env σ H ρ1 env1 st1 σ1 H1) (h : SOk K W B ρ env σ H r D) : SOk K W B ρ1 env1 σ1 H1 r D := by
  cases r with
  | nx e st => exact fun ρ' σ' H' P2 => h ρ' σ' H' (P.trans P2)
  | bk e st => exact fun ρ' σ' H' P2 => h ρ' σ' H' (P.trans P2)
  | ct e st => exact fun ρ' σ' H' P2 => h ρ' σ' H' (P.trans P2)
  | rt v st => exact fun ρ' e' σ' H' u P2 => h ρ' e' σ' H' u (P.trans P2)
  | exc x e st => exact fun ρ' σ' H' cls d P2 => h ρ' σ' H' cls d (P.trans P2)
  | stuck => exact h
theorem SOk.toS {r : RE α} {f : α → Sto → RS} {D : Ends} (h : SOk K W B ρ env σ H (r.toS env f) D) :
    ROk K W B ρ env σ H r fun a ρ' st' H' => SOk K W B ρ' env σ H' (f a st') D := by
  cases r with
  | ok a st' => exact fun ρ' H' E => SOk.shift E.post h
  | exc x st' => exact fun ρ' H' cls d E => h ρ' σ H' cls d E.post
  | stuck => exact h
end
end PL
/-! PLc: the expressions. -/
namespace PL
open PySem PySem.Spec L2
section
variable {X : Cx} {W : WX} {a b c e : Expr} {es : List Expr} {fa fb fc f : EF PV} {g : EF (List PV)} {pos : Pos}
/-! ### names and constants -/
theorem m_var {i : Nat} {x : Str} (hN : X.N[i]? = some x) (hv : Vis X.env.scope x) (hd : (x == ("__debug__" : Str)) = false := by decide) (hcd : (x == ("__classdict__" : Str)) = false := by decide) : ME X W (.Name x pos) (eVar i) := by
  refine ⟨tVar i, pe_var hN hv hd hcd, fun B ρ env st σ H Q R h => ?_⟩
  unfold eVar at h
  cases q : env[i]? with
  | none => rw [q] at h; exact h.elim
  | some ev =>
    rw [q] at h
    cases ev with
    | non => exact h.elim
    | own l => exact h.elim
    | val p =>
      obtain ⟨v, h1, h2⟩ := R.slot i _ q
      exact ⟨v, h1, h ρ H (.refl R) v h2⟩
theorem mb_own {i : Nat} {x : Str} (hN : X.N[i]? = some x) (hv : Vis X.env.scope x) (hd : (x == ("__debug__" : Str)) = false := by decide) (hcd : (x == ("__classdict__" : Str)) = false := by decide) : MB X W (.Name x pos) (eOwn i) := by
  refine ⟨tVar i, pe_var hN hv hd hcd, fun B ρ env st σ H Q R h => ?_⟩
  unfold eOwn at h
  cases q : env[i]? with
  | none => rw [q] at h; exact h.elim
  | some ev =>
    rw [q] at h
    cases ev with
    | non => exact h.elim
    | val p => exact h.elim
    | own l =>
      obtain ⟨z, xs, h1, h2, h3, h4⟩ := R.slot i _ q
      refine ⟨.ref z, h1, h ρ H (.refl R) (.ref z) ⟨⟨z, xs, rfl, h2, h3, h4⟩, fun a' l' e1 e2 => ?_⟩⟩
      cases e1
      exact (R.oR z ⟨i, l, q, h1⟩).1
theorem m_int {i : Int} {j} : ME X W (.Constant (.int i) j pos) (eC (.int i)) := ⟨_, pe_int, fun B ρ env st σ H Q R h => h ρ H (.refl R) _ mk_int⟩
theorem m_bl {i : Bool} {j} : ME X W (.Constant (.bool i) j pos) (eC (.bl i)) := ⟨_, pe_bl, fun B ρ env st σ H Q R h => h ρ H (.refl R) _ mk_bl⟩
theorem m_non {j} : ME X W (.Constant .none j pos) (eC .non) := ⟨_, pe_non, fun B ρ env st σ H Q R h => h ρ H (.refl R) _ mk_non⟩
theorem m_str {x : Str} {j} : ME X W (.Constant (.str x) j pos) (eC (.str x)) := ⟨_, pe_str, fun B ρ env st σ H Q R h => h ρ H (.refl R) _ mk_str⟩
theorem m_globI {x : Str} {i : Int} (hg : Gl X x) (hm : ∃ t, X.mg x = some (.int i t)) (hd : (x == ("__debug__" : Str)) = false := by decide) : ME X W (.Name x pos) (eC (.int i)) := by
  obtain ⟨t, hm⟩ := hm
  exact ⟨_, pe_glob (v := .int i) hg hm ⟨t, rfl⟩ hd, fun B ρ env st σ H Q R h => h ρ H (.refl R) _ mk_int⟩
theorem m_globS {x : Str} {i : Str} (hg : Gl X x) (hm : ∃ t, X.mg x = some (.str i t)) (hd : (x == ("__debug__" : Str)) = false := by decide) : ME X W (.Name x pos) (eC (.str i)) := by
  obtain ⟨t, hm⟩ := hm
  exact ⟨_, pe_glob (v := .str i) hg hm ⟨t, rfl⟩ hd, fun B ρ env st σ H Q R h => h ρ H (.refl R) _ mk_str⟩
end
/-! ### operations on values -/
/-- a value or a lent list -/
def RVl (K : PySem.W.Frag) (N : Addr → Prop) (ρ : List Addr) (H : Hp) (p : PV) (u : V) : Prop := RVb K N ρ H p u ∧ ∀ a l, u = .ref a → p = .lst l → a ∉ ρ
def RVls (K : PySem.W.Frag) (N : Addr → Prop) (ρ : List Addr) (H : Hp) : List PV → List V → Prop
  | [], xs => xs = []
  | p :: ps, xs => ∃ v vs, xs = v :: vs ∧ RVl K N ρ H p v ∧ RVls K N ρ H ps vs
section
variable {K : PySem.W.Frag} {N : Addr → Prop} {ρ : List Addr} {H : Hp}
theorem RVls.one {p : PV} {xs : List V} (h : RVls K N ρ H [p] xs) : ∃ v, xs = [v] ∧ RVl K N ρ H p v := by
  obtain ⟨v, vs, rfl, r, t⟩ := h
  exact ⟨v, by rw [show vs = [] from t], r⟩
theorem RVls.two {p q : PV} {xs : List V} (h : RVls K N ρ H [p, q] xs) : ∃ v w, xs = [v, w] ∧ RVl K N ρ H p v ∧ RVl K N ρ H q w := by
  obtain ⟨v, vs, rfl, r, t⟩ := h
  obtain ⟨w, rfl, r'⟩ := RVls.one t
  exact ⟨v, w, rfl, r, r'⟩
theorem rvb_int {i : Int} {v : V} (h : RVb K N ρ H (.int i) v) : v = .int i := rv_int (show RV K N ρ H (.int i) v from h)
theorem rvb_bl {i : Bool} {v : V} (h : RVb K N ρ H (.bl i) v) : v = .bl i := rv_bl (show RV K N ρ H (.bl i) v from h)
theorem rvb_non {v : V} (h : RVb K N ρ H .non v) : v = .non := rv_non (show RV K N ρ H .non v from h)
theorem rvb_str {i : Str} {v : V} (h : RVb K N ρ H (.str i) v) : v = .str i := rv_str (show RV K N ρ H (.str i) v from h)
theorem rvb_tup {l : List PV} {v : V} (h : RVb K N ρ H (.tup l) v) : ∃ a xs, v = .ref a ∧ TupAt K N H a xs ∧ xs.length ≤ LINE ∧ RVs K N ρ H l xs := rv_tup (show RV K N ρ H (.tup l) v from h)
theorem rvb_tud {l : List PV} {v : V} (h : RVb K N ρ H (.tud l) v) : ∃ a xs, v = .ref a ∧ TudAt N H a xs ∧ xs.length ≤ LINE ∧ RVs K N ρ H l xs := rv_tud (show RV K N ρ H (.tud l) v from h)
theorem rvb_cls {c : Str} {v : V} (h : RVb K N ρ H (.cls c) v) : v = .ref (He.ga K c) := rv_cls (show RV K N ρ H (.cls c) v from h)
theorem rvb_ins {c : Str} {ns : List Str} {l : List PV} {v : V} (h : RVb K N ρ H (.ins c ns l) v) : ∃ a ws, v = .ref a ∧ InsAt K N H a c ns ws ∧ RVs K N ρ H l ws := rv_ins (show RV K N ρ H (.ins c ns l) v from h)
theorem rvb_lst {l : List PV} {v : V} (h : RVb K N ρ H (.lst l) v) : ∃ a xs, v = .ref a ∧ H a = some (.lst xs) ∧ xs.length ≤ LINE ∧ RVs K N ρ H l xs := h
theorem rvb_scr {l : List Int} {v : V} (h : RVb K N ρ H (.scr l) v) : ∃ a, v = .ref a ∧ ScrAt K N H a l := rv_scr (show RV K N ρ H (.scr l) v from h)
end
/-- an operation of two values: f is binaryOp op, compareOp op -/
def OpP (X : Cx) (f : Value → Value → Sem Value) (op : PV → PV → Option PV) : Prop := ∃ r : R2, OpR X f r ∧
  ∀ (N : Addr → Prop) (ρ : List Addr) (H : Hp) (x y : V) (p q z : PV) (Q : VK), (∀ a, N a → H a ≠ none) → RVb X.K N ρ H p x → RVb X.K N ρ H q y → op p q = some z →
    (∀ H' w, Ext H H' → RV X.K N ρ H' z w → Q w H') → r x y H Q
def UnP (X : Cx) (f : Value → Sem Value) (op : PV → Option PV) : Prop := ∃ r : V → Hp → VK → Prop, UnR X f r ∧
  ∀ (N : Addr → Prop) (ρ : List Addr) (H : Hp) (x : V) (p z : PV) (Q : VK), (∀ a, N a → H a ≠ none) → RVb X.K N ρ H p x → op p = some z →
    (∀ H' w, Ext H H' → RV X.K N ρ H' z w → Q w H') → r x H Q
/-- a call of a built-in -/
def CallP (X : Cx) (fv : Value) (op : List PV → Option PV) : Prop := ∃ r : List V → Hp → VK → Prop, CallR X fv r ∧
  ∀ (N : Addr → Prop) (ρ : List Addr) (H : Hp) (xs : List V) (ps : List PV) (z : PV) (Q : VK), (∀ a, N a → H a ≠ none) → RVls X.K N ρ H ps xs → op ps = some z →
    (∀ H' w, Ext H H' → RV X.K N ρ H' z w → Q w H') → r xs H Q
/-- .. that makes a new list -/
def CallL (X : Cx) (fv : Value) (op : List PV → Option (List PV)) : Prop := ∃ r : List V → Hp → VK → Prop, CallR X fv r ∧
  ∀ (N : Addr → Prop) (ρ : List Addr) (H : Hp) (xs : List V) (ps z : List PV) (Q : VK), (∀ a, N a → H a ≠ none) → RVls X.K N ρ H ps xs → op ps = some z →
    (∀ H' p zs H'', Ext H H' → H' p = none → H'' = upd H' p (.lst zs) → zs.length ≤ LINE → RVs X.K N ρ H' z zs → Q (.ref p) H'') → r xs H Q
section
variable {X : Cx} {W : WX} {a b c e : Expr} {es : List Expr} {fa fb fc f : EF PV} {g : EF (List PV)} {pos : Pos}
variable {K : PySem.W.Frag} {B : Addr → Prop} {ρ ρ' : List Addr} {env : Env} {st st' : Sto} {σ : St} {H H' : Hp}
theorem RVl.on (P : EPost K B ρ env σ H ρ' st' H') (E0 : ∀ a ∈ ρ', a ∉ ρ → H a = none) {p : PV} {v : V} (h : RVl K (Excl B ρ env σ) ρ H p v) : RVl K (Excl B ρ' env σ) ρ' H' p v := by
  refine ⟨P.rvb h.1 h.2, fun a l e1 e2 z => ?_⟩
  by_cases h1 : a ∈ ρ
  · exact h.2 a l e1 e2 h1
  · have q := E0 a z h1
    subst e1 e2
    obtain ⟨b, xs, e3, h2, _⟩ := rvb_lst h.1
    cases e3
    rw [q] at h2
    cases h2
theorem RVls.on (P : EPost K B ρ env σ H ρ' st' H') : ∀ {ps : List PV} {vs : List V}, RVls K (Excl B ρ env σ) ρ H ps vs → RVls K (Excl B ρ' env σ) ρ' H' ps vs
  | [], _, h => h
  | p :: ps, _, h => by
    obtain ⟨v, vs, rfl, r, t⟩ := h
    exact ⟨v, vs, rfl, r.on P P.fr, RVls.on P t⟩
theorem Excl.inR {a : Addr} (h : a ∈ ρ) : Excl B ρ env σ a := .inr (.inl h)
/-- arguments that a built-in takes -/
def MAb (X : Cx) (W : WX) (es : List Expr) (f : EF (List PV)) : Prop := ∃ t, PA X es t ∧ ∀ B ρ env st σ H Q, Rep X.K B ρ env st σ H →
  ROk X.K W B ρ env σ H (f env st) (fun l ρ' st' H' => ∀ us, RVls X.K (Excl B ρ' env σ) ρ' H' l us → Q us H') → t σ H Q
theorem ma_nil : MA X W [] aNil := ⟨tNil, pa_nil, fun B ρ env st σ H Q R h => h ρ H (.refl R) [] .nil⟩
theorem ma_cons (ha : ME X W e f) (hr : MA X W es g) (hs : starEach (e :: es) X.env = (false, eval e X.env) :: starEach es X.env := by rfl) : MA X W (e :: es) (aCons f g) := by
  obtain ⟨t1, p1, q1⟩ := ha
  obtain ⟨t2, p2, q2⟩ := hr
  refine ⟨tCons t1 t2, pa_cons p1 p2 hs, fun B ρ env st σ H Q R h => ?_⟩
  refine q1 B ρ env st σ H _ R (ROk.mono (ROk.bind h) fun p ρ1 st1 H1 E1 h1 x rx => ?_)
  refine q2 B ρ1 env st1 σ H1 _ E1.rep (ROk.mono (ROk.bind h1) fun l ρ2 st2 H2 E2 h2 us rus => ?_)
  exact h2 ρ2 H2 (.refl E2.rep) (x :: us) (.cons (E2.post.rv rx) rus)
theorem mab_nil : MAb X W [] aNil := ⟨tNil, pa_nil, fun B ρ env st σ H Q R h => h ρ H (.refl R) [] rfl⟩
theorem mab_cons (ha : MB X W e f) (hr : MAb X W es g) (hs : starEach (e :: es) X.env = (false, eval e X.env) :: starEach es X.env := by rfl) : MAb X W (e :: es) (aCons f g) := by
  obtain ⟨t1, p1, q1⟩ := ha
  obtain ⟨t2, p2, q2⟩ := hr
  refine ⟨tCons t1 t2, pa_cons p1 p2 hs, fun B ρ env st σ H Q R h => ?_⟩
  refine q1 B ρ env st σ H _ R (ROk.mono (ROk.bind h) fun p ρ1 st1 H1 E1 h1 x rx => ?_)
  refine q2 B ρ1 env st1 σ H1 _ E1.rep (ROk.mono (ROk.bind h1) fun l ρ2 st2 H2 E2 h2 us rus => ?_)
  exact h2 ρ2 H2 (.refl E2.rep) (x :: us) ⟨x, us, rfl, RVl.on E2 E2.fr rx, rus⟩
theorem ROk.of {α : Type} {o : Option α} {Z : α → List Addr → Sto → Hp → Prop} (R : Rep K B ρ env st σ H) (h : ROk K W B ρ env σ H (RE.of o st) Z) : ∃ z, o = some z ∧ ∀ H', Ext H H' → Z z ρ st H' := by
  cases o with
  | none => exact h.elim
  | some z => exact ⟨z, rfl, fun H' E => h ρ H' (.ext R E)⟩
theorem m_op {op : Operator} {k : PV → PV → Option PV} (ho : OpP X (binaryOp op) k) (ha : MB X W a fa) (hb : MB X W b fb) : ME X W (.BinOp a op b pos) (eOp k fa fb) := by
  obtain ⟨r, hr, hg⟩ := ho
  obtain ⟨ta, pa, qa⟩ := ha
  obtain ⟨tb, pb, qb⟩ := hb
  refine ⟨tOp r ta tb, pe_op hr pa pb, fun B ρ env st σ H Q R h => ?_⟩
  refine qa B ρ env st σ H _ R (ROk.mono (ROk.bind h) fun p ρ1 st1 H1 E1 h1 x rx => ?_)
  refine qb B ρ1 env st1 σ H1 _ E1.rep (ROk.mono (ROk.bind h1) fun q ρ2 st2 H2 E2 h2 y ry => ?_)
  obtain ⟨z, e, hz⟩ := ROk.of E2.rep h2
  exact hg _ ρ2 H2 x y p q z Q (fun _ h => E2.rep.tr h) (RVl.on E2 E2.fr rx).1 ry.1 e fun H3 w E3 rw' => hz H3 E3 w rw'
theorem m_cmp {op : CmpOp} {k : PV → PV → Option PV} (ho : OpP X (compareOp op) k) (ha : MB X W a fa) (hb : MB X W b fb) (hm : behindInMarks op b = false) : ME X W (.Compare a [op] [b] pos) (eOp k fa fb) := by
  obtain ⟨r, hr, hg⟩ := ho
  obtain ⟨ta, pa, qa⟩ := ha
  obtain ⟨tb, pb, qb⟩ := hb
  refine ⟨tOp r ta tb, pe_cmpR hr pa pb hm, fun B ρ env st σ H Q R h => ?_⟩
  refine qa B ρ env st σ H _ R (ROk.mono (ROk.bind h) fun p ρ1 st1 H1 E1 h1 x rx => ?_)
  refine qb B ρ1 env st1 σ H1 _ E1.rep (ROk.mono (ROk.bind h1) fun q ρ2 st2 H2 E2 h2 y ry => ?_)
  obtain ⟨z, e, hz⟩ := ROk.of E2.rep h2
  exact hg _ ρ2 H2 x y p q z Q (fun _ h => E2.rep.tr h) (RVl.on E2 E2.fr rx).1 ry.1 e fun H3 w E3 rw' => hz H3 E3 w rw'
theorem mt_cmp {op : CmpOp} {k : PV → PV → Option PV} (ho : OpP X (compareOp op) k) (ha : MB X W a fa) (hb : MB X W b fb) (hm : behindInMarks op b = false) : MT X W (.Compare a [op] [b] pos) (tV (eOp k fa fb)) := by
  obtain ⟨r, hr, hg⟩ := ho
  obtain ⟨ta, pa, qa⟩ := ha
  obtain ⟨tb, pb, qb⟩ := hb
  refine ⟨_, pt_cmpR hr pa pb hm, fun B ρ env st σ H Q R h => ?_⟩
  have h := ROk.bind h
  refine qa B ρ env st σ H _ R (ROk.mono (ROk.bind h) fun p ρ1 st1 H1 E1 h1 x rx => ?_)
  refine qb B ρ1 env st1 σ H1 _ E1.rep (ROk.mono (ROk.bind h1) fun q ρ2 st2 H2 E2 h2 y ry => ?_)
  obtain ⟨z, e, hz⟩ := ROk.of E2.rep h2
  refine hg _ ρ2 H2 x y p q z _ (fun _ h => E2.rep.tr h) (RVl.on E2 E2.fr rx).1 ry.1 e fun H3 w E3 rw' => ?_
  have h3 := hz H3 E3
  cases z with
  | bl k => exact ⟨k, rv_bl rw', h3 ρ2 H3 (.refl (E2.rep.ext E3))⟩
  | _ => exact h3.elim
theorem m_chain {op op' : CmpOp} {k k' : PV → PV → Option PV} (ho : OpP X (compareOp op) k) (ho' : OpP X (compareOp op') k') (ha : MB X W a fa) (hb : MB X W b fb) (hc : MB X W c fc)
    (hm : lastMarks [op, op'] [b, c] = false := by with_unfolding_all rfl) : ME X W (.Compare a [op, op'] [b, c] pos) (eChain k k' fa fb fc) := by
  obtain ⟨r, hr, hg⟩ := ho
  obtain ⟨r', hr', hg'⟩ := ho'
  obtain ⟨ta, pa, qa⟩ := ha
  obtain ⟨tb, pb, qb⟩ := hb
  obtain ⟨tc, pc, qc⟩ := hc
  refine ⟨_, pe_chain hr hr' pa pb pc hm, fun B ρ env st σ H Q R h => ?_⟩
  refine qa B ρ env st σ H _ R (ROk.mono (ROk.bind h) fun p ρ1 st1 H1 E1 h1 x rx => ?_)
  refine qb B ρ1 env st1 σ H1 _ E1.rep (ROk.mono (ROk.bind h1) fun q ρ2 st2 H2 E2 h2 y ry => ?_)
  cases e : k p q with
  | none => rw [e] at h2; exact h2.elim
  | some z =>
    rw [e] at h2
    refine hg _ ρ2 H2 x y p q z _ (fun _ h => E2.rep.tr h) (RVl.on E2 E2.fr rx).1 ry.1 e fun H3 w E3 rw' => ?_
    cases z with
    | bl kk =>
      refine ⟨kk, rv_bl rw', ?_⟩
      have EE : EPost X.K B ρ2 env σ H2 ρ2 st2 H3 := .ext E2.rep E3
      cases kk with
      | false =>
        rw [if_neg Bool.false_ne_true]
        exact h2 ρ2 H3 EE _ mk_bl
      | true =>
        rw [if_pos rfl]
        refine qc B ρ2 env st2 σ H3 _ EE.rep (ROk.mono (ROk.bind (ROk.shift EE h2)) fun q2 ρ4 st4 H4 E4 h4 y2 ry2 => ?_)
        obtain ⟨z2, e2, hz2⟩ := ROk.of E4.rep h4
        exact hg' _ ρ4 H4 y y2 q q2 z2 Q (fun _ h => E4.rep.tr h) (RVl.on E4 E4.fr (RVl.on EE EE.fr ry)).1 ry2.1 e2 fun H5 w5 E5 r5 => hz2 H5 E5 w5 r5
    | _ => exact h2.elim
theorem mt_chain {op op' : CmpOp} {k k' : PV → PV → Option PV} (ho : OpP X (compareOp op) k) (ho' : OpP X (compareOp op') k') (ha : MB X W a fa) (hb : MB X W b fb) (hc : MB X W c fc)
    (hm : lastMarks [op, op'] [b, c] = false := by with_unfolding_all rfl) : MT X W (.Compare a [op, op'] [b, c] pos) (tV (eChain k k' fa fb fc)) := by
  obtain ⟨r, hr, hg⟩ := ho
  obtain ⟨r', hr', hg'⟩ := ho'
  obtain ⟨ta, pa, qa⟩ := ha
  obtain ⟨tb, pb, qb⟩ := hb
  obtain ⟨tc, pc, qc⟩ := hc
  refine ⟨_, pt_chain hr hr' pa pb pc hm, fun B ρ env st σ H Q R h => ?_⟩
  have h := ROk.bind h
  refine qa B ρ env st σ H _ R (ROk.mono (ROk.bind h) fun p ρ1 st1 H1 E1 h1 x rx => ?_)
  refine qb B ρ1 env st1 σ H1 _ E1.rep (ROk.mono (ROk.bind h1) fun q ρ2 st2 H2 E2 h2 y ry => ?_)
  cases e : k p q with
  | none => rw [e] at h2; exact h2.elim
  | some z =>
    rw [e] at h2
    refine hg _ ρ2 H2 x y p q z _ (fun _ h => E2.rep.tr h) (RVl.on E2 E2.fr rx).1 ry.1 e fun H3 w E3 rw' => ?_
    cases z with
    | bl kk =>
      refine ⟨kk, rv_bl rw', ?_⟩
      have EE : EPost X.K B ρ2 env σ H2 ρ2 st2 H3 := .ext E2.rep E3
      cases kk with
      | false =>
        rw [if_neg Bool.false_ne_true]
        exact ⟨false, rfl, h2 ρ2 H3 EE ρ2 H3 (.refl EE.rep)⟩
      | true =>
        rw [if_pos rfl]
        refine qc B ρ2 env st2 σ H3 _ EE.rep (ROk.mono (ROk.bind (ROk.shift EE h2)) fun q2 ρ4 st4 H4 E4 h4 y2 ry2 => ?_)
        obtain ⟨z2, e2, hz2⟩ := ROk.of E4.rep h4
        refine hg' _ ρ4 H4 y y2 q q2 z2 _ (fun _ h => E4.rep.tr h) (RVl.on E4 E4.fr (RVl.on EE EE.fr ry)).1 ry2.1 e2 fun H5 w5 E5 r5 => ?_
        have h5 := hz2 H5 E5
        cases z2 with
        | bl k5 => exact ⟨k5, rv_bl r5, h5 ρ4 H5 (.refl (E4.rep.ext E5))⟩
        | _ => exact h5.elim
    | _ => exact h2.elim
theorem m_un {op : UnaryOp} {k : PV → Option PV} (ho : UnP X (unaryOp op) k) (ha : ME X W a fa) : ME X W (.UnaryOp op a pos) (eUn k fa) := by
  obtain ⟨r, hr, hg⟩ := ho
  obtain ⟨ta, pa, qa⟩ := ha
  refine ⟨_, pe_un hr pa, fun B ρ env st σ H Q R h => ?_⟩
  refine qa B ρ env st σ H _ R (ROk.mono (ROk.bind h) fun p ρ1 st1 H1 E1 h1 x rx => ?_)
  obtain ⟨z, e, hz⟩ := ROk.of E1.rep h1
  exact hg _ ρ1 H1 x p z Q (fun _ h => E1.rep.tr h) rx.b e fun H3 w E3 rw' => hz H3 E3 w rw'
/-! ### displays -/
theorem m_tup {x1} (h : MA X W es g) : ME X W (.Tuple es x1 pos) (eTup g) := by
  obtain ⟨t, p, q⟩ := h
  refine ⟨tTup t, pe_tup p, fun B ρ env st σ H Q R h => ?_⟩
  refine q B ρ env st σ H _ R (ROk.mono (ROk.bind h) fun l ρ1 st1 H1 E1 h1 us rus => ?_)
  by_cases hl : l.length ≤ LINE
  · rw [if_pos hl] at h1
    have hz : us.length ≤ LINE := by rw [rus.len]; exact hl
    refine ⟨by rw [← LINE_eq]; exact hz, fun p np => ?_⟩
    have EE : EPost X.K B ρ1 env σ H1 ρ1 st1 (upd H1 p (.tup us)) := .ext E1.rep (.new np)
    exact h1 ρ1 _ EE _ (mk_tup (E1.rep.fresh np) upd_same hz (EE.post.rvs rus))
  · rw [if_neg hl] at h1
    exact h1.elim
theorem ml_lst (h : MA X W es g) : ML X W (.List es pos) (lDisp g) := by
  obtain ⟨t, p, q⟩ := h
  refine ⟨tLst t, pe_lst p, fun B ρ env st σ H Q R h => ?_⟩
  refine q B ρ env st σ H _ R (ROk.mono (ROk.bind h) fun l ρ1 st1 H1 E1 h1 us rus => ?_)
  by_cases hl : l.length ≤ LINE
  · rw [if_pos hl] at h1
    have hz : us.length ≤ LINE := by rw [rus.len]; exact hl
    exact ⟨by rw [← LINE_eq]; exact hz, fun p np => h1 ρ1 H1 (.refl E1.rep) p us _ np rfl hz rus⟩
  · rw [if_neg hl] at h1
    exact h1.elim
theorem ML.me (h : ML X W e g) : ME X W e (eLst g) := by
  obtain ⟨t, p, q⟩ := h
  refine ⟨t, p, fun B ρ env st σ H Q R h => ?_⟩
  refine q B ρ env st σ H _ R (ROk.mono (ROk.bind h) fun l ρ1 st1 H1 E1 h1 p xs H'' np e2 hz rxs => ?_)
  subst e2
  have EE : EPost X.K B ρ1 env σ H1 ρ1 st1 (upd H1 p (.lst xs)) := .ext E1.rep (.new np)
  exact h1 ρ1 _ EE _ (mk_lst (E1.rep.fresh np) upd_same hz (EE.post.rvs rxs))
/-! ### and, or, not, if -/
theorem m_one {op} (h : ME X W a fa) : ME X W (.BoolOp op [a] pos) fa := by
  obtain ⟨t, p, q⟩ := h
  exact ⟨t, pe_one p, q⟩
theorem m_and {rest : List Expr} (ha : ME X W a fa) (hb : ME X W (.BoolOp .And (b :: rest) pos) fb) : ME X W (.BoolOp .And (a :: b :: rest) pos) (eAnd fa fb) := by
  obtain ⟨ta, pa, qa⟩ := ha
  obtain ⟨tb, pb, qb⟩ := hb
  refine ⟨tAndV ta tb, pe_and pa pb, fun B ρ env st σ H Q R h => ?_⟩
  refine qa B ρ env st σ H _ R (ROk.mono (ROk.bind h) fun p ρ1 st1 H1 E1 h1 x rx => ?_)
  cases p with
  | bl k =>
    refine ⟨k, rv_bl rx, ?_⟩
    cases k with
    | true => rw [if_pos rfl]; exact qb B ρ1 env st1 σ H1 Q E1.rep h1
    | false => rw [if_neg Bool.false_ne_true]; exact h1 ρ1 H1 (.refl E1.rep) _ mk_bl
  | _ => exact h1.elim
theorem m_or {rest : List Expr} (ha : ME X W a fa) (hb : ME X W (.BoolOp .Or (b :: rest) pos) fb) : ME X W (.BoolOp .Or (a :: b :: rest) pos) (eOr fa fb) := by
  obtain ⟨ta, pa, qa⟩ := ha
  obtain ⟨tb, pb, qb⟩ := hb
  refine ⟨tOrV ta tb, pe_or pa pb, fun B ρ env st σ H Q R h => ?_⟩
  refine qa B ρ env st σ H _ R (ROk.mono (ROk.bind h) fun p ρ1 st1 H1 E1 h1 x rx => ?_)
  cases p with
  | bl k =>
    refine ⟨k, rv_bl rx, ?_⟩
    cases k with
    | true => rw [if_pos rfl]; exact h1 ρ1 H1 (.refl E1.rep) _ mk_bl
    | false => rw [if_neg Bool.false_ne_true]; exact qb B ρ1 env st1 σ H1 Q E1.rep h1
  | _ => exact h1.elim
theorem m_not (ha : ME X W a fa) : ME X W (.UnaryOp .Not a pos) (eNot fa) := by
  obtain ⟨ta, pa, qa⟩ := ha
  refine ⟨tNotV ta, pe_not pa, fun B ρ env st σ H Q R h => ?_⟩
  refine qa B ρ env st σ H _ R (ROk.mono (ROk.bind h) fun p ρ1 st1 H1 E1 h1 x rx => ?_)
  cases p with
  | bl k => exact ⟨k, rv_bl rx, h1 ρ1 H1 (.refl E1.rep) _ mk_bl⟩
  | _ => exact h1.elim
variable {ga gb : EF Bool}
theorem m_if (hc : MT X W c ga) (ha : ME X W a fa) (hb : ME X W b fb) : ME X W (.IfExp c a b pos) (eIf ga fa fb) := by
  obtain ⟨tc, pc, qc⟩ := hc
  obtain ⟨ta, pa, qa⟩ := ha
  obtain ⟨tb, pb, qb⟩ := hb
  refine ⟨tIf tc ta tb, pe_ifExp pc pa pb, fun B ρ env st σ H Q R h => ?_⟩
  refine qc B ρ env st σ H _ R (ROk.mono (ROk.bind h) fun k ρ1 st1 H1 E1 h1 => ?_)
  cases k with
  | true => rw [if_pos rfl]; rw [if_pos rfl] at h1; exact qa B ρ1 env st1 σ H1 Q E1.rep h1
  | false => rw [if_neg Bool.false_ne_true]; rw [if_neg Bool.false_ne_true] at h1; exact qb B ρ1 env st1 σ H1 Q E1.rep h1
/-! ### tests -/
theorem mt_val (h : ME X W a fa) (he : ∀ whole, isTrue a X.env whole = (do let v ← whole; standAt a.pos; holding [v] (truthy v)) := by intro _; rfl) : MT X W a (tV fa) := by
  obtain ⟨t, p, q⟩ := h
  refine ⟨tB t, pt_val p he, fun B ρ env st σ H Q R h => ?_⟩
  refine q B ρ env st σ H _ R (ROk.mono (ROk.bind h) fun v ρ1 st1 H1 E1 h1 x rx => ?_)
  cases v with
  | bl k => exact ⟨k, rv_bl rx, h1 ρ1 H1 (.refl E1.rep)⟩
  | _ => exact h1.elim
theorem mt_not (h : MT X W a ga) : MT X W (.UnaryOp .Not a pos) (tNotF ga) := by
  obtain ⟨t, p, q⟩ := h
  refine ⟨tNot t, pt_not p, fun B ρ env st σ H Q R h => ?_⟩
  exact q B ρ env st σ H _ R (ROk.mono (ROk.bind h) fun k ρ1 st1 H1 E1 h1 => h1 ρ1 H1 (.refl E1.rep))
theorem mw_and1 (h : MT X W a ga) : MW X W (.BoolOp .And [a] pos) ga := by
  obtain ⟨t, p, q⟩ := h
  exact ⟨t, pw_and1 p, q⟩
theorem mw_or1 (h : MT X W a ga) : MW X W (.BoolOp .Or [a] pos) ga := by
  obtain ⟨t, p, q⟩ := h
  exact ⟨t, pw_or1 p, q⟩
theorem mw_and {rest : List Expr} (ha : MT X W a ga) (hb : MW X W (.BoolOp .And (b :: rest) pos) gb) : MW X W (.BoolOp .And (a :: b :: rest) pos) (tAndF ga gb) := by
  obtain ⟨ta, pa, qa⟩ := ha
  obtain ⟨tb, pb, qb⟩ := hb
  refine ⟨tAnd ta tb, pw_and pa pb, fun B ρ env st σ H Q R h => ?_⟩
  refine qa B ρ env st σ H _ R (ROk.mono (ROk.bind h) fun k ρ1 st1 H1 E1 h1 => ?_)
  cases k with
  | true => rw [if_pos rfl]; rw [if_pos rfl] at h1; exact qb B ρ1 env st1 σ H1 Q E1.rep h1
  | false => rw [if_neg Bool.false_ne_true]; rw [if_neg Bool.false_ne_true] at h1; exact h1 ρ1 H1 (.refl E1.rep)
theorem mw_or {rest : List Expr} (ha : MT X W a ga) (hb : MW X W (.BoolOp .Or (b :: rest) pos) gb) : MW X W (.BoolOp .Or (a :: b :: rest) pos) (tOrF ga gb) := by
  obtain ⟨ta, pa, qa⟩ := ha
  obtain ⟨tb, pb, qb⟩ := hb
  refine ⟨tOr ta tb, pw_or pa pb, fun B ρ env st σ H Q R h => ?_⟩
  refine qa B ρ env st σ H _ R (ROk.mono (ROk.bind h) fun k ρ1 st1 H1 E1 h1 => ?_)
  cases k with
  | true => rw [if_pos rfl]; rw [if_pos rfl] at h1; exact h1 ρ1 H1 (.refl E1.rep)
  | false => rw [if_neg Bool.false_ne_true]; rw [if_neg Bool.false_ne_true] at h1; exact qb B ρ1 env st1 σ H1 Q E1.rep h1
/-! ### built-ins called -/
theorem m_callB {x : Str} {p : Pos} {id : String} {k : List PV → Option PV} (hc : CallP X (.builtin id) k) (hg : Gl X x) (hm : X.mg x = none) (hv : bootBuiltins x = some (.builtin id)) (ha : MAb X W (e :: es) g) (hn : x ≠ "__name__" := by decide)
    (hdb : (x == ("__debug__" : Str)) = false := by decide) (he : starEach (e :: es) X.env = (false, eval e X.env) :: starEach es X.env := by rfl) (hpl : (backTo pos (starEach es X.env)).any (·.1) = false := by rfl) : ME X W (.Call (.Name x p) (e :: es) [] pos) (eB k g) := by
  obtain ⟨r, hr, hk⟩ := hc
  obtain ⟨t, pt, q⟩ := ha
  refine ⟨tCB r t, pe_callB hr hg hm hv pt hn hdb he hpl, fun B ρ env st σ H Q R h => ?_⟩
  refine q B ρ env st σ H _ R (ROk.mono (ROk.bind h) fun l ρ1 st1 H1 E1 h1 us rus => ?_)
  obtain ⟨z, e, hz⟩ := ROk.of E1.rep h1
  exact hk _ ρ1 H1 us l z Q (fun _ h => E1.rep.tr h) rus e fun H3 w E3 rw' => hz H3 E3 w rw'
theorem m_callTy {x : Str} {p : Pos} {T : String} {k : List PV → Option PV} (hc : CallP X (.type T) k) (hg : Gl X x) (hm : X.mg x = none) (hv : bootBuiltins x = some (.type T)) (ha : MAb X W (e :: es) g) (hn : x ≠ "__name__" := by decide)
    (hdb : (x == ("__debug__" : Str)) = false := by decide) (he : starEach (e :: es) X.env = (false, eval e X.env) :: starEach es X.env := by rfl) (hpl : (backTo pos (starEach es X.env)).any (·.1) = false := by rfl) : ME X W (.Call (.Name x p) (e :: es) [] pos) (eB k g) := by
  obtain ⟨r, hr, hk⟩ := hc
  obtain ⟨t, pt, q⟩ := ha
  refine ⟨tCB r t, pe_callTy hr hg hm hv pt hn hdb he hpl, fun B ρ env st σ H Q R h => ?_⟩
  refine q B ρ env st σ H _ R (ROk.mono (ROk.bind h) fun l ρ1 st1 H1 E1 h1 us rus => ?_)
  obtain ⟨z, e, hz⟩ := ROk.of E1.rep h1
  exact hk _ ρ1 H1 us l z Q (fun _ h => E1.rep.tr h) rus e fun H3 w E3 rw' => hz H3 E3 w rw'
theorem ml_callB {x : Str} {p : Pos} {id : String} {k : List PV → Option (List PV)} (hc : CallL X (.builtin id) k) (hg : Gl X x) (hm : X.mg x = none) (hv : bootBuiltins x = some (.builtin id)) (ha : MAb X W (e :: es) g) (hn : x ≠ "__name__" := by decide)
    (hdb : (x == ("__debug__" : Str)) = false := by decide) (he : starEach (e :: es) X.env = (false, eval e X.env) :: starEach es X.env := by rfl) (hpl : (backTo pos (starEach es X.env)).any (·.1) = false := by rfl) : ML X W (.Call (.Name x p) (e :: es) [] pos) (lB k g) := by
  obtain ⟨r, hr, hk⟩ := hc
  obtain ⟨t, pt, q⟩ := ha
  refine ⟨tCB r t, pe_callB hr hg hm hv pt hn hdb he hpl, fun B ρ env st σ H Q R h => ?_⟩
  refine q B ρ env st σ H _ R (ROk.mono (ROk.bind h) fun l ρ1 st1 H1 E1 h1 us rus => ?_)
  obtain ⟨z, e, hz⟩ := ROk.of E1.rep h1
  exact hk _ ρ1 H1 us l z Q (fun _ h => E1.rep.tr h) rus e fun H3 p zs H4 E3 np e4 hl rw' => hz H3 E3 p zs H4 np e4 hl rw'
theorem ml_callTy {x : Str} {p : Pos} {T : String} {k : List PV → Option (List PV)} (hc : CallL X (.type T) k) (hg : Gl X x) (hm : X.mg x = none) (hv : bootBuiltins x = some (.type T)) (ha : MAb X W (e :: es) g) (hn : x ≠ "__name__" := by decide)
    (hdb : (x == ("__debug__" : Str)) = false := by decide) (he : starEach (e :: es) X.env = (false, eval e X.env) :: starEach es X.env := by rfl) (hpl : (backTo pos (starEach es X.env)).any (·.1) = false := by rfl) : ML X W (.Call (.Name x p) (e :: es) [] pos) (lB k g) := by
  obtain ⟨r, hr, hk⟩ := hc
  obtain ⟨t, pt, q⟩ := ha
  refine ⟨tCB r t, pe_callTy hr hg hm hv pt hn hdb he hpl, fun B ρ env st σ H Q R h => ?_⟩
  refine q B ρ env st σ H _ R (ROk.mono (ROk.bind h) fun l ρ1 st1 H1 E1 h1 us rus => ?_)
  obtain ⟨z, e, hz⟩ := ROk.of E1.rep h1
  exact hk _ ρ1 H1 us l z Q (fun _ h => E1.rep.tr h) rus e fun H3 p zs H4 E3 np e4 hl rw' => hz H3 E3 p zs H4 np e4 hl rw'
end
end PL
/-! PLd: what is walked; comprehensions; statements. -/
namespace PL
open PySem PySem.Spec L2
/-- what was tracked and is not in M is as it was -/
def Keep (M : Addr → Prop) (H H' : Hp) : Prop := ∀ a o, H a = some o → ¬ M a → H' a = some o
/-- a later state, for values -/
structure Later (N : Addr → Prop) (ρ : List Addr) (H : Hp) (N' : Addr → Prop) (ρ' : List Addr) (H' : Hp) : Prop where
  less : ∀ a o, H a = some o → N' a → N a
  keep : Keep N H H'
  pre : ρ <+: ρ'
  tr : ∀ a, N' a → H' a ≠ none
/-- an iterator over these items, from the heap H0 on, while nothing changes but M -/
structure IterOk (K : PySem.W.Frag) (N M : Addr → Prop) (ρ : List Addr) (J : It) (items : List PV) (H0 : Hp) : Prop where
  len : items.length ≤ LINE
  go : ∀ i H, i < items.length → Keep M H0 H → J.go i H
  stop : ∀ H, Keep M H0 H → J.stop items.length H
  yld : ∀ i H x H', i < items.length → Keep M H0 H → J.yld i H x H' → Ext H H' ∧ ∀ p N' ρ', items[i]? = some p → Later N ρ H0 N' ρ' H → RV K N' ρ' H' p x
def MI (X : Cx) (W : WX) (tg iter : Expr) (f : EF (List PV)) : Prop := ∃ wi : TI, PI X tg iter wi ∧ ∀ B ρ env st σ H (R : It → Hp → Prop), Rep X.K B ρ env st σ H →
  ROk X.K W B ρ env σ H (f env st) (fun items ρ' st' H' => ∀ J H'', Ext H' H'' → IterOk X.K (Excl B ρ' env σ) (Excl B ρ' env σ) ρ' J items H'' → R J H'') → wi σ H R
/-- .. for a comprehension: a lent list may be walked -/
def MIc (X : Cx) (W : WX) (tg iter : Expr) (f : EF (List PV)) : Prop := ∃ wi : TI, PI X tg iter wi ∧ ∀ B ρ env st σ H (R : It → Hp → Prop), Rep X.K B ρ env st σ H →
  ROk X.K W B ρ env σ H (f env st) (fun items ρ' st' H' => ∀ J H'', Ext H' H'' → IterOk X.K (Excl B ρ' env σ) (fun a => a ∈ ρ') ρ' J items H'' → R J H'') → wi σ H R
theorem IterOk.less {K : PySem.W.Frag} {N M M' : Addr → Prop} {ρ : List Addr} {J : It} {items : List PV} {H0 : Hp} (h : IterOk K N M ρ J items H0) (hm : ∀ a, M' a → M a) : IterOk K N M' ρ J items H0 :=
  have q : ∀ {H}, Keep M' H0 H → Keep M H0 H := fun k a o e n => k a o e fun z => n (hm a z)
  ⟨h.len, fun i H hi k => h.go i H hi (q k), fun H k => h.stop H (q k), fun i H x H' hi k => h.yld i H x H' hi (q k)⟩
theorem MI.toC {X : Cx} {W : WX} {tg iter : Expr} {f : EF (List PV)} (h : MI X W tg iter f) : MIc X W tg iter f := by
  obtain ⟨wi, p, q⟩ := h
  exact ⟨wi, p, fun B ρ env st σ H R Rp h => q B ρ env st σ H R Rp (h.mono fun items ρ' st' H' E z J H'' e i => z J H'' e (i.less fun a h => Excl.inR h))⟩
theorem Post.later {K : PySem.W.Frag} {B : Addr → Prop} {ρ ρ' : List Addr} {env env' : Env} {st' : Sto} {σ σ' : L2.St} {H H' : Hp} (P : Post K B ρ env σ H ρ' env' st' σ' H') : Later (Excl B ρ env σ) ρ H (Excl B ρ' env' σ') ρ' H' where
  less := fun a o e n => by
    rcases n with n | n | n
    · exact .inl n
    · by_cases h1 : a ∈ ρ
      · exact .inr (.inl h1)
      · have q := P.fr a n h1
        rw [e] at q
        cases q
    · rcases P.ow a n with q | q
      · exact .inr (.inr q)
      · rw [e] at q
        cases q
  keep := fun a o e n => P.kp a o e (fun z => n (.inr (.inl z))) fun z => n (.inr (.inr z))
  pre := P.pre
  tr := fun a h => P.rep.tr h
theorem Later.rv {K : PySem.W.Frag} {N N' : Addr → Prop} {ρ ρ' : List Addr} {H H' : Hp} (L : Later N ρ H N' ρ' H') {p : PV} {v : V} (h : RV K N ρ H p v) : RV K N' ρ' H' p v := RV.carry L.less L.keep L.pre p v h
theorem RV.ext {K : PySem.W.Frag} {N : Addr → Prop} {ρ : List Addr} {H H' : Hp} (E : Ext H H') {p : PV} {v : V} (h : RV K N ρ H p v) : RV K N ρ H' p v := RV.carry (fun _ _ _ z => z) (fun a o e _ => E a o e) List.prefix_rfl p v h
theorem RVs.ext {K : PySem.W.Frag} {N : Addr → Prop} {ρ : List Addr} {H H' : Hp} (E : Ext H H') {p : List PV} {v : List V} (h : RVs K N ρ H p v) : RVs K N ρ H' p v := RVs.carry (fun _ _ _ z => z) (fun a o e _ => E a o e) List.prefix_rfl p v h
/-! ### iterators -/
section
variable {K : PySem.W.Frag} {N M : Addr → Prop} {ρ : List Addr} {H0 : Hp}
/-- over a walk that yields the items as they are -/
theorem iter_at {J : It} {xs : List V} {items : List PV} {G : Hp → Prop} (w : Walk J xs.length G (YAt xs)) (hG : ∀ H, Keep M H0 H → G H) (hl : xs.length ≤ LINE) (r : RVs K N ρ H0 items xs) : IterOk K N M ρ J items H0 := by
  have el := r.len
  refine ⟨by rw [← el]; exact hl, fun i H hi k => w.goes i H (by rw [el]; exact hi) (hG H k), fun H k => by rw [← el]; exact w.stops H (hG H k), fun i H x H' hi k y => ?_⟩
  obtain ⟨e1, e2⟩ := w.yields i H x H' (by rw [el]; exact hi) (hG H k) y
  subst e1
  refine ⟨Ext.refl, fun p N' ρ' hp L => ?_⟩
  obtain ⟨v, h1, h2⟩ := r.get hp
  rw [e2] at h1
  cases h1
  exact L.rv h2
/-- over a walk that yields new pairs -/
theorem iter_pair {J : It} {n : Nat} {f g : Nat → Option V} {items : List PV} {G : Hp → Prop} (w : Walk J n G (YPair f g)) (hG : ∀ H, Keep M H0 H → G H) (hn : items.length = n) (hl : n ≤ LINE)
    (h : ∀ i p x y, items[i]? = some p → f i = some x → g i = some y → ∃ q r, p = .tup [q, r] ∧ RV K N ρ H0 q x ∧ RV K N ρ H0 r y) : IterOk K N M ρ J items H0 := by
  refine ⟨by rw [hn]; exact hl, fun i H hi k => w.goes i H (by rw [← hn]; exact hi) (hG H k), fun H k => by rw [hn]; exact w.stops H (hG H k), fun i H v H' hi k y => ?_⟩
  obtain ⟨T, x, z, rfl, hT, rfl, hx, hz⟩ := w.yields i H v H' (by rw [← hn]; exact hi) (hG H k) y
  refine ⟨Ext.new hT, fun p N' ρ' hp L => ?_⟩
  obtain ⟨q, r, rfl, h1, h2⟩ := h i p x z hp hx hz
  exact mk_tup (fun z => L.tr T z hT) upd_same (by show 2 ≤ 16777216; decide) (.cons (RV.ext (Ext.new hT) (L.rv h1)) (.cons (RV.ext (Ext.new hT) (L.rv h2)) .nil))
theorem iter_list {a : Addr} {xs : List V} {items : List PV} (h : H0 a = some (.lst xs)) (n : ¬ M a) (hl : xs.length ≤ LINE) (r : RVs K N ρ H0 items xs) : IterOk K N M ρ (Itl K a) items H0 :=
  iter_at walk_list (fun H k => SqL.of (k a _ h n)) hl r
theorem iter_tup {a : Addr} {xs : List V} {items : List PV} (h : TupAt K N H0 a xs) (n : ∀ a, M a → N a) (hl : xs.length ≤ LINE) (r : RVs K N ρ H0 items xs) : IterOk K N M ρ (Itt K a) items H0 :=
  iter_at walk_tup (fun H k => h.keep k n) hl r
theorem iter_tud {a : Addr} {xs : List V} {items : List PV} (h : TudAt N H0 a xs) (n : ∀ a, M a → N a) (hl : xs.length ≤ LINE) (r : RVs K N ρ H0 items xs) : IterOk K N M ρ (Itt K a) items H0 :=
  iter_at walk_tup (fun H k => h.keep k n) hl r
end
def rangeF (lo : Int) (n : Nat) : List PV := (List.range n).map fun (i : Nat) => PV.int (lo + i)
section
variable {K : PySem.W.Frag} {N M : Addr → Prop} {ρ : List Addr} {H0 : Hp}
theorem iter_range {lo : Int} {n : Nat} (hn : n ≤ LINE) : IterOk K N M ρ (Itr lo n) (rangeF lo n) H0 := by
  have el : (rangeF lo n).length = n := by unfold rangeF; rw [List.length_map, List.length_range]
  refine ⟨by rw [el]; exact hn, fun i H hi k => by rw [el] at hi; exact hi, fun H k => by rw [el]; exact Nat.le_refl _, fun i H x H' hi k y => ?_⟩
  obtain ⟨e1, e2⟩ := y
  subst e1 e2
  refine ⟨Ext.refl, fun p N' ρ' hp L => ?_⟩
  rw [el] at hi
  unfold rangeF at hp
  rw [List.getElem?_map, List.getElem?_range hi] at hp
  cases hp
  exact mk_int
end
def iSeq (f : EF PV) : EF (List PV) := fun e st => (f e st).bind fun v st => match v with
  | .tup l => .ok l st
  | .tud l => .ok l st
  | .lst l => .ok l st
  | _ => .stuck
def int1 : List PV → Option Int
  | [.int j] => some j
  | _ => none
def int2 : List PV → Option (Int × Int)
  | [.int i, .int j] => some (i, j)
  | _ => none
theorem int1_eq {l : List PV} {j : Int} (h : int1 l = some j) : l = [.int j] := by
  unfold int1 at h
  split at h
  · cases h; rfl
  · cases h
def iRng1 (g : EF (List PV)) : EF (List PV) := fun e st => (g e st).bind fun vs st => match int1 vs with
  | some j => if -LINE ≤ j ∧ j ≤ LINE then .ok (rangeF 0 j.toNat) st else .stuck
  | none => .stuck
def iRng2 (g : EF (List PV)) : EF (List PV) := fun e st => (g e st).bind fun vs st => match int2 vs with
  | some (i, j) => if -LINE ≤ i ∧ i ≤ LINE ∧ -LINE ≤ j ∧ j ≤ LINE ∧ j - i ≤ LINE then .ok (rangeF i (j - i).toNat) st else .stuck
  | none => .stuck
def seqOf : PV → Option (List PV)
  | .tup l => some l
  | .lst l => some l
  | _ => none
def zipF : List PV → List PV → List PV
  | x :: xs, y :: ys => .tup [x, y] :: zipF xs ys
  | _, _ => []
def enumF (n : Nat) : List PV → List PV
  | [] => []
  | x :: xs => .tup [.int n, x] :: enumF (n + 1) xs
section
variable {X : Cx} {W : WX} {tg a b e : Expr} {es : List Expr} {fa f : EF PV} {g : EF (List PV)} {pos p : Pos}
theorem PI.or {iter : Expr} {w1 w2 : TI} (h1 : PI X tg iter w1) (h2 : PI X tg iter w2) : PI X tg iter (fun σ H R => w1 σ H R ∨ w2 σ H R) :=
  ⟨fun pins s σ H R I q => q.elim (h1.run pins s σ H R I) (h2.run pins s σ H R I)⟩
theorem mi_seq (h : ME X W a fa) : MI X W tg a (iSeq fa) := by
  obtain ⟨t, pt, q⟩ := h
  refine ⟨_, PI.or (pi_list (tg := tg) pt) (pi_tup (tg := tg) pt), fun B ρ env st σ H R Rp h => ?_⟩
  unfold iSeq at h
  cases hf : fa env st with
  | stuck => rw [hf] at h; exact h.elim
  | exc x st1 =>
    rw [hf] at h
    refine .inl (q B ρ env st σ H _ Rp ?_)
    rw [hf]
    exact h
  | ok v st1 =>
    rw [hf] at h
    cases v with
    | lst l =>
      refine .inl (q B ρ env st σ H _ Rp ?_)
      rw [hf]
      intro ρ1 H1 E1 u ru
      obtain ⟨z, xs, rfl, n, h1, h2, h3⟩ := rv_lst ru
      exact ⟨z, rfl, ⟨xs, SqL.of h1⟩, h ρ1 H1 E1 _ H1 Ext.refl (iter_list h1 n h2 h3)⟩
    | tup l =>
      refine .inr (q B ρ env st σ H _ Rp ?_)
      rw [hf]
      intro ρ1 H1 E1 u ru
      obtain ⟨z, xs, rfl, h1, h2, h3⟩ := rv_tup ru
      exact ⟨z, rfl, ⟨xs, h1.sq⟩, h ρ1 H1 E1 _ H1 Ext.refl (iter_tup h1 (fun _ k => k) h2 h3)⟩
    | tud l =>
      refine .inr (q B ρ env st σ H _ Rp ?_)
      rw [hf]
      intro ρ1 H1 E1 u ru
      obtain ⟨z, xs, rfl, h1, h2, h3⟩ := rv_tud ru
      exact ⟨z, rfl, ⟨xs, h1.sq⟩, h ρ1 H1 E1 _ H1 Ext.refl (iter_tud h1 (fun _ k => k) h2 h3)⟩
    | _ => exact h.elim
/-- a lent list, in a comprehension -/
theorem mic_seq (h : MB X W a fa) : MIc X W tg a (iSeq fa) := by
  obtain ⟨t, pt, q⟩ := h
  refine ⟨_, PI.or (pi_list (tg := tg) pt) (pi_tup (tg := tg) pt), fun B ρ env st σ H R Rp h => ?_⟩
  unfold iSeq at h
  cases hf : fa env st with
  | stuck => rw [hf] at h; exact h.elim
  | exc x st1 =>
    rw [hf] at h
    refine .inl (q B ρ env st σ H _ Rp ?_)
    rw [hf]
    exact h
  | ok v st1 =>
    rw [hf] at h
    cases v with
    | lst l =>
      refine .inl (q B ρ env st σ H _ Rp ?_)
      rw [hf]
      intro ρ1 H1 E1 u ru
      obtain ⟨z, xs, rfl, h1, h2, h3⟩ := rvb_lst ru.1
      exact ⟨z, rfl, ⟨xs, SqL.of h1⟩, h ρ1 H1 E1 _ H1 Ext.refl (iter_list h1 (ru.2 z l rfl rfl) h2 h3)⟩
    | tup l =>
      refine .inr (q B ρ env st σ H _ Rp ?_)
      rw [hf]
      intro ρ1 H1 E1 u ru
      obtain ⟨z, xs, rfl, h1, h2, h3⟩ := rvb_tup ru.1
      exact ⟨z, rfl, ⟨xs, h1.sq⟩, h ρ1 H1 E1 _ H1 Ext.refl (iter_tup h1 (fun _ k => Excl.inR k) h2 h3)⟩
    | tud l =>
      refine .inr (q B ρ env st σ H _ Rp ?_)
      rw [hf]
      intro ρ1 H1 E1 u ru
      obtain ⟨z, xs, rfl, h1, h2, h3⟩ := rvb_tud ru.1
      exact ⟨z, rfl, ⟨xs, h1.sq⟩, h ρ1 H1 E1 _ H1 Ext.refl (iter_tud h1 (fun _ k => Excl.inR k) h2 h3)⟩
    | _ => exact h.elim
theorem line62 : (LINE : Int) < 2 ^ 62 := by show ((16777216 : Nat) : Int) < 2 ^ 62; decide
theorem mi_range1 (hg : Gl X "range") (hm : X.mg "range" = none) (ha : MA X W [a] g) (hs : starEach [a] X.env = [(false, eval a X.env)] := by rfl) : MI X W tg (.Call (.Name "range" p) [a] [] pos) (iRng1 g) := by
  obtain ⟨t, pt, q⟩ := ha
  refine ⟨_, pi_range1 (tg := tg) hg hm pt hs, fun B ρ env st σ H R Rp h => ?_⟩
  refine q B ρ env st σ H _ Rp (ROk.mono (ROk.bind h) fun l ρ1 st1 H1 E1 h1 us rus => ?_)
  cases e1 : int1 l with
  | none => rw [e1] at h1; exact h1.elim
  | some j =>
    rw [e1] at h1
    have e2 := int1_eq e1
    subst e2
    obtain ⟨v, rfl, rv⟩ := rus.one
    have e := rv_int rv
    subst e
    dsimp only at h1
    by_cases hj : -LINE ≤ j ∧ j ≤ LINE
    · rw [if_pos hj] at h1
      have l62 := line62
      exact ⟨j, rfl, by omega, by omega, h1 ρ1 H1 (.refl E1.rep) _ H1 Ext.refl (iter_range (by omega))⟩
    · rw [if_neg hj] at h1
      exact h1.elim
end

/-! ### targets -/
/-- what a target does to a state; it changes the slots vs alone -/
def BOk (b : BF) (vs : List Nat) : Prop := ∀ p env env1, b p env = some env1 → env1.length = env.length ∧ ∀ j, j ∉ vs → env1[j]? = env[j]?
def BsOk (bs : List BF) (vs : List Nat) : Prop := ∀ ps env env1, bSeq bs ps env = some env1 → env1.length = env.length ∧ ∀ j, j ∉ vs → env1[j]? = env[j]?
theorem bok_name {i : Nat} : BOk (bName i) [i] := fun p env env1 h => by
  unfold bName at h
  by_cases hl : i < env.length
  · rw [if_pos hl] at h
    cases h
    exact ⟨List.length_set, fun j hj => List.getElem?_set_ne (fun z => hj (by simp [z]))⟩
  · rw [if_neg hl] at h
    cases h
theorem bsok_nil : BsOk [] [] := fun ps env env1 h => by
  cases ps with
  | nil => cases h; exact ⟨rfl, fun _ _ => rfl⟩
  | cons _ _ => cases h
theorem bSeq_split {b : BF} {bs : List BF} {ps : List PV} {env env1 : Env} (h : bSeq (b :: bs) ps env = some env1) : ∃ p r env2, ps = p :: r ∧ b p env = some env2 ∧ bSeq bs r env2 = some env1 := by
  cases ps with
  | nil => cases h
  | cons p r =>
    unfold bSeq at h
    cases e : b p env with
    | none => rw [e] at h; cases h
    | some env2 =>
      rw [e] at h
      exact ⟨p, r, env2, rfl, e, h⟩
theorem bsok_cons {b : BF} {bs : List BF} {vs ws : List Nat} (c1 : BOk b vs) (c2 : BsOk bs ws) : BsOk (b :: bs) (vs ++ ws) := fun ps env env1 h => by
  obtain ⟨p, r, env2, rfl, e1, e2⟩ := bSeq_split h
  obtain ⟨k1, k2⟩ := c1 _ _ _ e1
  obtain ⟨k3, k4⟩ := c2 _ _ _ e2
  exact ⟨k3.trans k1, fun j hj => (k4 j fun z => hj (List.mem_append_right _ z)).trans (k2 j fun z => hj (List.mem_append_left _ z))⟩
theorem bok_tup {bs : List BF} {vs : List Nat} (c : BsOk bs vs) : BOk (bTup bs) vs := fun pv env env1 h => by
  cases pv with
  | tup l => exact c l env env1 h
  | _ => cases h
def MG (X : Cx) (tg : Expr) (b : BF) (vs : List Nat) : Prop := BOk b vs ∧ ∃ g : TG, PG X tg g ∧
  ∀ B ρ env st σ H p v env1 Q, Rep X.K B ρ env st σ H → RV X.K (Excl B ρ env σ) ρ H p v → b p env = some env1 →
    (∀ σ1, Post X.K B ρ env σ H ρ env1 st σ1 H → σ1.length = σ.length → (∀ j, j ∉ vs → σ1[j]? = σ[j]?) → Q σ1 H) → g v σ H Q
def MGs (X : Cx) (tgs : List Expr) (bs : List BF) (vs : List Nat) : Prop := BsOk bs vs ∧ ∃ g : TGs, PGs X tgs g ∧
  ∀ B ρ env st σ H ps vl env1 Q, Rep X.K B ρ env st σ H → RVs X.K (Excl B ρ env σ) ρ H ps vl → bSeq bs ps env = some env1 →
    (∀ σ1, Post X.K B ρ env σ H ρ env1 st σ1 H → σ1.length = σ.length → (∀ j, j ∉ vs → σ1[j]? = σ[j]?) → Q σ1 H) → g vl σ H Q
section
variable {K : PySem.W.Frag} {B : Addr → Prop} {ρ : List Addr} {env env' : Env} {st : Sto} {σ σ' : L2.St} {H H' : Hp}
theorem Owned.tr (R : Rep K B ρ env st σ H) {a : Addr} (h : Owned env σ a) : ∃ o, H a = some o := by
  obtain ⟨xs, e⟩ := R.oT h
  exact ⟨_, e⟩
/-- other names, all else as it was -/
theorem Rep.re (R : Rep K B ρ env st σ H) (E : Ext H H') (len : env'.length = σ'.length) (ow : ∀ a, Owned env' σ' a → Owned env σ a ∨ (H a = none ∧ ∃ o, H' a = some o))
    (slot : ∀ (i : Nat) e, env'[i]? = some e → (env[i]? = some e ∧ σ'[i]? = σ[i]?) ∨ SlotOk K (Excl B ρ env' σ') ρ H' σ' i e)
    (sep : ∀ (i j : Nat) l l' a, env'[i]? = some (.own l) → env'[j]? = some (.own l') → σ'[i]? = some (some (.ref a)) → σ'[j]? = some (some (.ref a)) → i = j) : Post K B ρ env σ H ρ env' st σ' H' := by
  have less : ∀ a o, H a = some o → Excl B ρ env' σ' a → Excl B ρ env σ a := fun a o e n => by
    rcases n with n | n | n
    · exact .inl n
    · exact .inr (.inl n)
    · rcases ow a n with q | ⟨q, _⟩
      · exact .inr (.inr q)
      · rw [e] at q
        cases q
  have tr : ∀ a, H a ≠ none → H' a ≠ none := fun a h z => by
    cases e : H a with
    | none => exact h e
    | some o => rw [E a o e] at z; cases z
  refine ⟨⟨len, R.lenC, R.nd, fun n c a h1 h2 => ?_, fun a h => tr a (R.rT a h), R.rB, fun a h => (R.bN a h).keep fun o e => E a o e, fun i e h => ?_, fun a h => ?_, sep⟩, List.prefix_rfl, fun a o e _ _ => E a o e, tr, fun _ h n => absurd h n, fun a h => ?_⟩
  · have q := R.cell n c a h1 h2
    exact q.carry less (fun a o e _ => E a o e) List.prefix_rfl fun o q1 => E _ _ q1
  · rcases slot i e h with ⟨k1, k2⟩ | k
    · have q := R.slot i e k1
      cases e with
      | non => trivial
      | val p =>
        obtain ⟨v, q1, q2⟩ := q
        exact ⟨v, k2.trans q1, RV.carry less (fun a o e _ => E a o e) List.prefix_rfl _ _ q2⟩
      | own l =>
        obtain ⟨a, xs, q0, q1, q2, q3⟩ := q
        exact ⟨a, xs, k2.trans q0, E _ _ q1, q2, RVs.carry less (fun a o e _ => E a o e) List.prefix_rfl _ _ q3⟩
    · exact k
  · rcases ow a h with q | ⟨q, _⟩
    · exact R.oR a q
    · exact ⟨fun z => R.rT a z q, fun z => R.bT a z q⟩
  · rcases ow a h with q | ⟨q, _⟩
    · exact .inl q
    · exact .inr q
theorem own_set_val {i : Nat} {p : PV} {v : V} {a : Addr} (h : Owned (env.set i (.val p)) (σ.set i (some v)) a) : Owned env σ a := by
  obtain ⟨j, l, h1, h2⟩ := h
  by_cases hj : i = j
  · subst hj
    by_cases hl : i < env.length
    · rw [List.getElem?_set_self hl] at h1
      cases h1
    · rw [List.getElem?_eq_none (by rw [List.length_set]; omega)] at h1
      cases h1
  · rw [List.getElem?_set_ne hj] at h1 h2
    exact ⟨j, l, h1, h2⟩
theorem Rep.setVal (R : Rep K B ρ env st σ H) {i : Nat} {p : PV} {v : V} (hi : i < env.length) (r : RV K (Excl B ρ env σ) ρ H p v) : Post K B ρ env σ H ρ (env.set i (.val p)) st (σ.set i (some v)) H := by
  refine R.re Ext.refl (by rw [List.length_set, List.length_set]; exact R.lenE) (fun a h => .inl (own_set_val h)) (fun j e h => ?_) (fun j k l l' a h1 h2 h3 h4 => ?_)
  · by_cases hj : i = j
    · subst hj
      rw [List.getElem?_set_self hi] at h
      cases h
      refine .inr ⟨v, by rw [List.getElem?_set_self (by rw [← R.lenE]; exact hi)], RV.carry (fun a o e n => ?_) (fun a o e _ => e) List.prefix_rfl _ _ r⟩
      rcases n with n | n | n
      · exact .inl n
      · exact .inr (.inl n)
      · exact .inr (.inr (own_set_val n))
    · rw [List.getElem?_set_ne hj] at h
      exact .inl ⟨h, by rw [List.getElem?_set_ne hj]⟩
  · by_cases hj : i = j
    · subst hj
      rw [List.getElem?_set_self hi] at h1
      cases h1
    · by_cases hk : i = k
      · subst hk
        rw [List.getElem?_set_self hi] at h2
        cases h2
      · rw [List.getElem?_set_ne hj] at h1 h3
        rw [List.getElem?_set_ne hk] at h2 h4
        exact R.sep j k l l' a h1 h2 h3 h4
/-- a list of its own, new -/
theorem Rep.setOwn (R : Rep K B ρ env st σ H) {i : Nat} {l : List PV} {xs : List V} {p : Addr} (hi : i < env.length) (hp : H p = none) (hl : xs.length ≤ LINE) (r : RVs K (Excl B ρ env σ) ρ H l xs) :
    Post K B ρ env σ H ρ (env.set i (.own l)) st (σ.set i (some (.ref p))) (upd H p (.lst xs)) := by
  have ow : ∀ a, Owned (env.set i (.own l)) (σ.set i (some (.ref p))) a → Owned env σ a ∨ a = p := fun a h => by
    obtain ⟨j, m, h1, h2⟩ := h
    by_cases hj : i = j
    · subst hj
      rw [List.getElem?_set_self (by rw [← R.lenE]; exact hi)] at h2
      cases h2
      exact .inr rfl
    · rw [List.getElem?_set_ne hj] at h1 h2
      exact .inl ⟨j, m, h1, h2⟩
  refine R.re (.new hp) (by rw [List.length_set, List.length_set]; exact R.lenE) (fun a h => ?_) (fun j e h => ?_) (fun j k m m' a h1 h2 h3 h4 => ?_)
  · rcases ow a h with q | q
    · exact .inl q
    · subst q
      exact .inr ⟨hp, _, upd_same⟩
  · by_cases hj : i = j
    · subst hj
      rw [List.getElem?_set_self hi] at h
      cases h
      refine .inr ⟨p, xs, by rw [List.getElem?_set_self (by rw [← R.lenE]; exact hi)], upd_same, hl, RVs.carry (fun a o e n => ?_) (fun a o e _ => Ext.new hp a o e) List.prefix_rfl _ _ r⟩
      rcases n with n | n | n
      · exact .inl n
      · exact .inr (.inl n)
      · rcases ow a n with q | q
        · exact .inr (.inr q)
        · subst q
          rw [hp] at e
          cases e
    · rw [List.getElem?_set_ne hj] at h
      exact .inl ⟨h, by rw [List.getElem?_set_ne hj]⟩
  · have no : ∀ j m, i ≠ j → env[j]? = some (.own m) → σ[j]? ≠ some (some (.ref p)) := fun j m _ e1 e2 => by
      obtain ⟨ys, e⟩ := R.oT ⟨j, m, e1, e2⟩
      rw [hp] at e
      cases e
    by_cases hj : i = j
    · by_cases hk : i = k
      · rw [← hj, ← hk]
      · subst hj
        rw [List.getElem?_set_ne hk] at h2 h4
        rw [List.getElem?_set_self (by rw [← R.lenE]; exact hi)] at h3
        cases h3
        exact absurd h4 (no k m' hk h2)
    · rw [List.getElem?_set_ne hj] at h1 h3
      by_cases hk : i = k
      · subst hk
        rw [List.getElem?_set_self (by rw [← R.lenE]; exact hi)] at h4
        cases h4
        exact absurd h3 (no j m hj h1)
      · rw [List.getElem?_set_ne hk] at h2 h4
        exact R.sep j k m m' a h1 h2 h3 h4
end
section
variable {X : Cx} {tg : Expr} {tgs : List Expr} {b : BF} {bs : List BF} {vs ws : List Nat} {pos : Pos}
theorem mg_name {i : Nat} {x : Str} (hN : X.N.Nodup) (hi : X.N[i]? = some x) (hx : Loc X.env.scope x) (hf : X.fn x = true ∨ X.env.scope.names.lookup x = some .local := by first | exact .inl rfl | exact .inr rfl | assumption) : MG X (.Name x pos) (bName i) [i] := by
  refine ⟨bok_name, _, pg_name hN hi hx hf, fun B ρ env st σ H p v env1 Q R r h q => ?_⟩
  unfold bName at h
  by_cases hl : i < env.length
  · rw [if_pos hl] at h
    cases h
    exact q _ (R.setVal hl r) List.length_set fun j hj => List.getElem?_set_ne (fun z => hj (by simp [z]))
  · rw [if_neg hl] at h
    cases h
theorem mgs_nil : MGs X [] [] [] := by
  refine ⟨bsok_nil, _, pgs_nil, fun B ρ env st σ H ps vl env1 Q R r h q => ?_⟩
  cases ps with
  | nil =>
    cases h
    have e := r.unnil
    subst e
    exact ⟨rfl, q σ (.refl R) rfl fun _ _ => rfl⟩
  | cons _ _ => cases h
theorem mgs_cons (h1 : MG X tg b vs) (h2 : MGs X tgs bs ws) (hs : (assignEach (tg :: tgs) X.env).map (·.2) = assign tg X.env :: (assignEach tgs X.env).map (·.2) := by rfl) : MGs X (tg :: tgs) (b :: bs) (vs ++ ws) := by
  obtain ⟨c1, g1, p1, q1⟩ := h1
  obtain ⟨c2, g2, p2, q2⟩ := h2
  refine ⟨bsok_cons c1 c2, _, pgs_cons p1 p2 hs, fun B ρ env st σ H ps vl env1 Q R r h q => ?_⟩
  obtain ⟨p, ps', env2, rfl, e1, e2⟩ := bSeq_split h
  obtain ⟨v, vl', rfl, rv, rt⟩ := r.uncons
  refine ⟨v, vl', rfl, q1 B ρ env st σ H p v env2 _ R rv e1 fun σ1 P1 l1 k1 => ?_⟩
  refine q2 B ρ env2 st σ1 H ps' vl' env1 Q P1.rep (P1.rvs rt) e2 fun σ2 P2 l2 k2 => ?_
  exact q σ2 (P1.trans P2) (l2.trans l1) fun j hj => (k2 j fun z => hj (List.mem_append_right _ z)).trans (k1 j fun z => hj (List.mem_append_left _ z))
theorem bSeq_len : ∀ {bs : List BF} {ps : List PV} {env env1 : Env}, bSeq bs ps env = some env1 → ps.length = bs.length
  | [], [], _, _, _ => rfl
  | [], _ :: _, _, _, h => by cases h
  | _ :: _, [], _, _, h => by cases h
  | b :: bs, p :: ps, env, env1, h => by
    unfold bSeq at h
    cases e : b p env with
    | none => rw [e] at h; cases h
    | some env2 =>
      rw [e] at h
      rw [List.length_cons, List.length_cons, bSeq_len h]
theorem mg_tup {k : Nat} (hc : X.calm = true) (h : MGs X tgs bs vs) (hn : (assignEach tgs X.env).length = bs.length := by rfl) (hst : (assignEach tgs X.env).findIdx? (·.1) = none := by rfl) : MG X (.Tuple tgs k pos) (bTup bs) vs := by
  obtain ⟨c, g, p, q⟩ := h
  refine ⟨bok_tup c, _, pg_tup hc p hn hst, fun B ρ env st σ H pv v env1 Q R r h q2 => ?_⟩
  cases pv with
  | tup l =>
    obtain ⟨a, xs, rfl, e1, e2, rl⟩ := rv_tup r
    have h' : bSeq bs l env = some env1 := h
    exact ⟨a, xs, rfl, e1.sq, by rw [rl.len]; exact bSeq_len h', q B ρ env st σ H l xs env1 Q R rl h' q2⟩
  | _ => cases h
end
end PL
/-! PLe: list comprehensions. -/
namespace PL
open PySem PySem.Spec L2
/-! ### readings that do not hang on the context -/
def canE (K : PySem.W.Frag) (W : WX) (f : EF PV) : TE := fun σ H Q => ∃ B ρ env st, Rep K B ρ env st σ H ∧ ROk K W B ρ env σ H (f env st) fun p ρ' st' H' => ∀ u, RV K (Excl B ρ' env σ) ρ' H' p u → Q u H'
def canT (K : PySem.W.Frag) (W : WX) (f : EF Bool) : TT := fun σ H Q => ∃ B ρ env st, Rep K B ρ env st σ H ∧ ROk K W B ρ env σ H (f env st) fun k ρ' st' H' => Q k H'
def canI (K : PySem.W.Frag) (W : WX) (f : EF (List PV)) : TI := fun σ H R => ∃ B ρ env st, Rep K B ρ env st σ H ∧
  ROk K W B ρ env σ H (f env st) fun items ρ' st' H' => ∀ J H'', Ext H' H'' → IterOk K (Excl B ρ' env σ) (fun a => a ∈ ρ') ρ' J items H'' → R J H''
def canG (K : PySem.W.Frag) (b : BF) (vs : List Nat) : TG := fun v σ H Q => ∃ B ρ env st p env1, Rep K B ρ env st σ H ∧ RV K (Excl B ρ env σ) ρ H p v ∧ b p env = some env1 ∧
  ∀ σ1, Post K B ρ env σ H ρ env1 st σ1 H → σ1.length = σ.length → (∀ j, j ∉ vs → σ1[j]? = σ[j]?) → Q σ1 H
section
variable {X : Cx} {W : WX} {e tg iter : Expr} {f : EF PV} {fb : EF Bool} {g : EF (List PV)} {b : BF} {vs : List Nat}
theorem ME.can (h : ME X W e f) : PE X e (canE X.K W f) := by
  obtain ⟨t, p, q⟩ := h
  exact ⟨fun pins s σ H Q I ⟨B, ρ, env, st, R, h⟩ => p.run pins s σ H Q I (q B ρ env st σ H Q R h)⟩
theorem MT.can (h : MT X W e fb) : PT X e (canT X.K W fb) := by
  obtain ⟨t, p, q⟩ := h
  exact ⟨fun pins s σ H Q I ⟨B, ρ, env, st, R, h⟩ => p.run pins s σ H Q I (q B ρ env st σ H Q R h)⟩
theorem MIc.can (h : MIc X W tg iter g) : PI X tg iter (canI X.K W g) := by
  obtain ⟨t, p, q⟩ := h
  exact ⟨fun pins s σ H Q I ⟨B, ρ, env, st, R, h⟩ => p.run pins s σ H Q I (q B ρ env st σ H Q R h)⟩
theorem MG.can (h : MG X tg b vs) : PG X tg (canG X.K b vs) := by
  obtain ⟨_, t, p, q⟩ := h
  exact ⟨fun pins s σ H v u Q I r ⟨B, ρ, env, st, pv, env1, R, rv, e, h⟩ => p.run pins s σ H v u Q I r (q B ρ env st σ H pv v env1 Q R rv e h)⟩
end
/-- a clause's tests -/
def MTs (X : Cx) (W : WX) (ifs : List Expr) (f : EF Bool) : Prop := PTs X ifs (canT X.K W f)
section
variable {X : Cx} {W : WX} {c : Expr} {f : EF Bool}
theorem mts_nil : MTs X W [] tYesF := ⟨fun pins s σ H Q I ⟨B, ρ, env, st, R, h⟩ => pts_nil.run pins s σ H Q I (h ρ H (.refl R))⟩
theorem mts_one (h : MT X W c f) : MTs X W [c] f := pts_one h.can
end
/-! ### slots wiped -/
theorem wipe_get : ∀ (vs : List Nat) (σ : L2.St) (j : Nat), (wipe σ vs)[j]? = if j ∈ vs then (if j < σ.length then some none else none) else σ[j]?
  | [], σ, j => by
    unfold wipe
    rw [if_neg (by simp)]
  | v :: vs, σ, j => by
    unfold wipe
    by_cases hj : v = j
    · subst hj
      rw [if_pos (by simp)]
      by_cases hl : v < σ.length
      · rw [if_pos hl, List.getElem?_set_self (by rw [wipe_length]; exact hl)]
      · rw [if_neg hl, List.getElem?_eq_none (by rw [List.length_set, wipe_length]; omega)]
    · rw [List.getElem?_set_ne hj, wipe_get vs σ j]
      by_cases hm : j ∈ vs
      · rw [if_pos hm, if_pos (List.mem_cons_of_mem _ hm)]
      · rw [if_neg hm, if_neg (by simp only [List.mem_cons, not_or]; exact ⟨fun z => hj z.symm, hm⟩)]
theorem wipeE_len : ∀ (vs : List Nat) (e : Env), (wipeE e vs).length = e.length
  | [], _ => rfl
  | v :: vs, e => by unfold wipeE; rw [List.length_set, wipeE_len vs e]
theorem wipeE_get : ∀ (vs : List Nat) (e : Env) (j : Nat), (wipeE e vs)[j]? = if j ∈ vs then (if j < e.length then some .non else none) else e[j]?
  | [], e, j => by
    unfold wipeE
    rw [if_neg (by simp)]
  | v :: vs, e, j => by
    unfold wipeE
    by_cases hj : v = j
    · subst hj
      rw [if_pos (by simp)]
      by_cases hl : v < e.length
      · rw [if_pos hl, List.getElem?_set_self (by rw [wipeE_len]; exact hl)]
      · rw [if_neg hl, List.getElem?_eq_none (by rw [List.length_set, wipeE_len]; omega)]
    · rw [List.getElem?_set_ne hj, wipeE_get vs e j]
      by_cases hm : j ∈ vs
      · rw [if_pos hm, if_pos (List.mem_cons_of_mem _ hm)]
      · rw [if_neg hm, if_neg (by simp only [List.mem_cons, not_or]; exact ⟨fun z => hj z.symm, hm⟩)]
theorem wipe_same {vs : List Nat} {σ σ1 : L2.St} (hl : σ1.length = σ.length) (h : ∀ j, j ∉ vs → σ1[j]? = σ[j]?) : wipe σ1 vs = wipe σ vs := by
  refine List.ext_getElem? fun j => ?_
  rw [wipe_get, wipe_get, hl]
  by_cases hm : j ∈ vs
  · rw [if_pos hm, if_pos hm]
  · rw [if_neg hm, if_neg hm, h j hm]
section
variable {K : PySem.W.Frag} {B B' : Addr → Prop} {ρ ρ0 ρ1 : List Addr} {env env1 : Env} {st st0 st1 : Sto} {σ σ1 : L2.St} {H H0 H1 H2 : Hp}
/-- what a comprehension's block must leave: what was so, the new list, the names that it hides -/
def Inner (B : Addr → Prop) (env : Env) (σ : L2.St) (vs : List Nat) (D : Addr) (a : Addr) : Prop := B a ∨ a = D ∨ (Owned env σ a ∧ ¬ Owned (wipeE env vs) (wipe σ vs) a)
theorem own_wipe {vs : List Nat} {a : Addr} (h : Owned (wipeE env vs) (wipe σ vs) a) : Owned env σ a := by
  obtain ⟨j, l, h1, h2⟩ := h
  rw [wipeE_get] at h1
  rw [wipe_get] at h2
  by_cases hm : j ∈ vs
  · rw [if_pos hm] at h1
    split at h1 <;> cases h1
  · rw [if_neg hm] at h1 h2
    exact ⟨j, l, h1, h2⟩
theorem excl_inner {vs : List Nat} {D a : Addr} : Excl (Inner B env σ vs D) ρ (wipeE env vs) (wipe σ vs) a ↔ Excl B ρ env σ a ∨ a = D := by
  constructor
  · intro h
    rcases h with (h | h | ⟨h, _⟩) | h | h
    · exact .inl (.inl h)
    · exact .inr h
    · exact .inl (.inr (.inr h))
    · exact .inl (.inr (.inl h))
    · exact .inl (.inr (.inr (own_wipe h)))
  · intro h
    rcases h with (h | h | h) | h
    · exact .inl (.inl h)
    · exact .inr (.inl h)
    · by_cases hw : Owned (wipeE env vs) (wipe σ vs) a
      · exact .inr (.inr hw)
      · exact .inl (.inr (.inr ⟨h, hw⟩))
    · exact .inl (.inr (.inl h))
theorem Rep.wiped (R : Rep K B ρ env st σ H) {D : Addr} {o : HO} (hD : H D = none) (vs : List Nat) (ho : ∀ xs, o ≠ .tup xs := by intro _ z; cases z) : Rep K (Inner B env σ vs D) ρ (wipeE env vs) st (wipe σ vs) (upd H D o) := by
  have less : ∀ a u, H a = some u → Excl (Inner B env σ vs D) ρ (wipeE env vs) (wipe σ vs) a → Excl B ρ env σ a := fun a u e n => by
    rcases excl_inner.mp n with q | q
    · exact q
    · rw [q, hD] at e
      cases e
  have E : Ext H (upd H D o) := .new hD
  have tr : ∀ a, H a ≠ none → (upd H D o) a ≠ none := fun a h z => by
    cases e : H a with
    | none => exact h e
    | some u => rw [E a u e] at z; cases z
  have nD : ∀ a, H a ≠ none → a ≠ D := fun a h z => h (by rw [z]; exact hD)
  refine ⟨by rw [wipeE_len, wipe_length]; exact R.lenE, R.lenC, R.nd, fun n c a h1 h2 => ?_, fun a h => tr a (R.rT a h), fun a h z => ?_, fun a h => ?_, fun i e h => ?_, fun a h => ?_, fun i j l l' a h1 h2 h3 h4 => ?_⟩
  · have q := R.cell n c a h1 h2
    exact q.carry less (fun a u e _ => E a u e) List.prefix_rfl fun o q1 => E _ _ q1
  · rcases z with z | z | ⟨z, _⟩
    · exact R.rB a h z
    · exact nD a (R.rT a h) z
    · exact (R.oR a z).1 h
  · rcases h with h | h | ⟨h, _⟩
    · exact (R.bN a h).keep fun o e => E a o e
    · exact .of (by rw [h, upd_same]) ho
    · obtain ⟨xs, e⟩ := R.oT h
      exact .of (E a _ e) fun _ z => by cases z
  · rw [wipeE_get] at h
    by_cases hm : i ∈ vs
    · rw [if_pos hm] at h
      split at h
      · cases h; trivial
      · cases h
    · rw [if_neg hm] at h
      have q := R.slot i e h
      have ew : (wipe σ vs)[i]? = σ[i]? := by rw [wipe_get, if_neg hm]
      cases e with
      | non => trivial
      | val p =>
        obtain ⟨v, q1, q2⟩ := q
        exact ⟨v, ew.trans q1, RV.carry less (fun a u e _ => E a u e) List.prefix_rfl _ _ q2⟩
      | own l =>
        obtain ⟨a, xs, q0, q1, q2, q3⟩ := q
        exact ⟨a, xs, ew.trans q0, E _ _ q1, q2, RVs.carry less (fun a u e _ => E a u e) List.prefix_rfl _ _ q3⟩
  · have ho := own_wipe h
    refine ⟨(R.oR a ho).1, fun z => ?_⟩
    rcases z with z | z | ⟨_, z⟩
    · exact (R.oR a ho).2 z
    · exact nD a (R.tr (.inr (.inr ho))) z
    · exact z h
  · rw [wipeE_get] at h1 h2
    rw [wipe_get] at h3 h4
    by_cases hi : i ∈ vs
    · rw [if_pos hi] at h1
      split at h1 <;> cases h1
    · by_cases hj : j ∈ vs
      · rw [if_pos hj] at h2
        split at h2 <;> cases h2
      · rw [if_neg hi] at h1 h3
        rw [if_neg hj] at h2 h4
        exact R.sep i j l l' a h1 h2 h3 h4
/-- a thing that is not ours is written -/
theorem Rep.inB (R : Rep K B ρ env st σ H) {D : Addr} {o : HO} (hD : B D) (ho : ∀ xs, o ≠ .tup xs := by intro _ z; cases z) : Rep K B ρ env st σ (upd H D o) := by
  have k1 : ∀ a u, H a = some u → ¬ Excl B ρ env σ a → (upd H D o) a = some u := fun a u e n => by
    rw [upd_ne (fun z => n (by rw [z]; exact .inl hD))]
    exact e
  have tr : ∀ a, H a ≠ none → (upd H D o) a ≠ none := fun a h => by
    by_cases ha : a = D
    · rw [ha, upd_same]
      exact fun z => by cases z
    · rw [upd_ne ha]
      exact h
  refine ⟨R.lenE, R.lenC, R.nd, fun n c a h1 h2 => ?_, fun a h => tr a (R.rT a h), R.rB, fun a h => (by
    by_cases ha : a = D
    · exact .of (by rw [ha, upd_same]) ho
    · exact (R.bN a h).keep fun o e => by rw [upd_ne ha]; exact e), fun i e h => ?_, R.oR, R.sep⟩
  · have q := R.cell n c a h1 h2
    exact q.carry (fun _ _ _ z => z) k1 List.prefix_rfl fun o q1 => by rw [upd_ne (fun z => R.rB a (List.mem_of_getElem? h2) (by rw [z]; exact hD))]; exact q1
  · have q := R.slot i e h
    cases e with
    | non => trivial
    | val p =>
      obtain ⟨v, q1, q2⟩ := q
      exact ⟨v, q1, RV.carry (fun _ _ _ z => z) k1 List.prefix_rfl _ _ q2⟩
    | own l =>
      obtain ⟨a, xs, q0, q1, q2, q3⟩ := q
      exact ⟨a, xs, q0, by rw [upd_ne (fun z => (R.oR a ⟨i, l, h, q0⟩).2 (by rw [z]; exact hD))]; exact q1, q2, RVs.carry (fun _ _ _ z => z) k1 List.prefix_rfl _ _ q3⟩
/-- back to the names of before: the store's things as they are behind, all else kept -/
theorem Rep.back (R0 : Rep K B ρ0 env st0 σ H0) (R1 : Rep K B' ρ1 env1 st1 σ1 H1) (pre : ρ0 <+: ρ1) (k0 : ∀ a o, H0 a = some o → a ∉ ρ0 → H2 a = some o) (fr : ∀ a ∈ ρ1, a ∉ ρ0 → H0 a = none) (kc : ∀ a ∈ ρ1, H2 a = H1 a)
    (k1 : ∀ a o, H1 a = some o → ¬ Excl B' ρ1 env1 σ1 a → H2 a = some o) (less : ∀ a, Excl B ρ1 env σ a → Excl B' ρ1 env1 σ1 a) (rB : ∀ a ∈ ρ1, ¬ B a) : Rep K B ρ1 env st1 σ H2 := by
  have l0 : ∀ a o, H0 a = some o → Excl B ρ1 env σ a → Excl B ρ0 env σ a := fun a o e n => by
    rcases n with n | n | n
    · exact .inl n
    · by_cases h : a ∈ ρ0
      · exact .inr (.inl h)
      · have q := fr a n h
        rw [e] at q
        cases q
    · exact .inr (.inr n)
  have kk : ∀ a o, H0 a = some o → ¬ Excl B ρ0 env σ a → H2 a = some o := fun a o e n => k0 a o e fun z => n (.inr (.inl z))
  refine ⟨R0.lenE, R1.lenC, R1.nd, fun n c a h1 h2 => ?_, fun a h => by rw [kc a h]; exact R1.rT a h, rB, fun a h => (R0.bN a h).keep fun o e => k0 a o e (fun y => R0.rB a y h), fun i e h => ?_, fun a h => ⟨fun z => ?_, (R0.oR a h).2⟩, R0.sep⟩
  · have q := R1.cell n c a h1 h2
    exact q.carry (fun a o _ n => less a n) k1 List.prefix_rfl fun o q1 => by rw [kc a (List.mem_of_getElem? h2)]; exact q1
  · have q := R0.slot i e h
    cases e with
    | non => trivial
    | val p =>
      obtain ⟨v, q1, q2⟩ := q
      exact ⟨v, q1, RV.carry l0 kk pre _ _ q2⟩
    | own l =>
      obtain ⟨a, xs, q0, q1, q2, q3⟩ := q
      exact ⟨a, xs, q0, k0 a _ q1 (R0.oR a ⟨i, l, h, q0⟩).1, q2, RVs.carry l0 kk pre _ _ q3⟩
  · obtain ⟨xs, e⟩ := R0.oT h
    have q := fr a z (R0.oR a h).1
    rw [e] at q
    cases q
end
theorem noE_ok {α : Type} {K : PySem.W.Frag} {W : WX} {B : Addr → Prop} {ρ : List Addr} {env : Env} {σ : L2.St} {H : Hp} {r : RE α} {Z : α → List Addr → Sto → Hp → Prop} (h : ROk K W B ρ env σ H r.noE Z) :
    ROk K (fun _ _ _ _ => False) B ρ env σ H r Z := by
  cases r with
  | ok a st => exact h
  | exc x st => exact h.elim
  | stuck => exact h
abbrev WF : WX := fun _ _ _ _ => False
/-- the reading of a comprehension -/
theorem lc_reads {K : PySem.W.Frag} {W : WX} {it : EF (List PV)} {b : BF} {vs : List Nat} {c : EF Bool} {t : EF PV} {B : Addr → Prop} {ρ : List Addr} {env : Env} {st : Sto} {σ : L2.St} {H : Hp} {Q : VK} (hb : BOk b vs)
    (R : Rep K B ρ env st σ H) (h : ROk K W B ρ env σ H (lLc it b vs c t env st) (fun l ρ' st' H' => ∀ p xs H'', H' p = none → H'' = upd H' p (.lst xs) → xs.length ≤ LINE → RVs K (Excl B ρ' env σ) ρ' H' l xs → Q (.ref p) H'')) :
    tLc (canI K W it) (canG K b vs) (canT K WF c) (canE K WF t) vs σ H Q := by
  refine ⟨B, ρ, env, st, R, ROk.mono (ROk.bind h) fun items ρ1 st1 H1 E1 h1 J H1' EX IT D hD => ?_⟩
  have E1' : EPost K B ρ env σ H ρ1 st1 H1' := E1.trans (.ext E1.rep EX)
  have R1 : Rep K B ρ1 env st1 σ H1' := E1'.rep
  have h1 := ROk.shift (EPost.ext E1.rep EX) h1
  have RW : Rep K (Inner B env σ vs D) ρ1 (wipeE env vs) st1 (wipe σ vs) (upd H1' D (.lst [])) := R1.wiped hD vs
  have tot : ∃ l stf, lcLoop b c t (wipeE env vs) items st1 = .ok l stf := by
    cases hl : lcLoop b c t (wipeE env vs) items st1 with
    | ok l stf => exact ⟨l, stf, rfl⟩
    | stuck => rw [hl] at h1; exact h1.elim
    | exc x stf =>
      have no : ∀ (xs : List PV) (s : Sto) (x : Ex) (s' : Sto), lcLoop b c t (wipeE env vs) xs s ≠ .exc x s' := by
        intro xs
        induction xs with
        | nil => intro s x s' z; cases z
        | cons y ys ih =>
          intro s x s' z
          unfold lcLoop at z
          cases hbv : b y (wipeE env vs) with
          | none => rw [hbv] at z; cases z
          | some e1 =>
            rw [hbv] at z
            dsimp only at z
            cases hc : c e1 s with
            | stuck => rw [hc] at z; cases z
            | exc _ _ => rw [hc] at z; cases z
            | ok k s2 =>
              rw [hc] at z
              cases k with
              | false => exact ih s2 x s' z
              | true =>
                have z : ((t e1 s2).noE.bind fun y st => (lcLoop b c t (wipeE env vs) ys st).bind fun ys st => .ok (y :: ys) st) = .exc x s' := z
                cases ht : t e1 s2 with
                | stuck => rw [ht] at z; cases z
                | exc _ _ => rw [ht] at z; cases z
                | ok v s3 =>
                  rw [ht] at z
                  have z : ((lcLoop b c t (wipeE env vs) ys s3).bind fun ys st => .ok (v :: ys) st) = .exc x s' := z
                  cases hr : lcLoop b c t (wipeE env vs) ys s3 with
                  | stuck => rw [hr] at z; cases z
                  | exc _ _ => exact ih _ _ _ hr
                  | ok _ _ => rw [hr] at z; cases z
      exact absurd hl (no _ _ _ _)
  obtain ⟨l, stf, hl⟩ := tot
  rw [hl] at h1
  let Pw : Nat → Hp → Prop := fun i Hi => ∃ ρi sti acc accV ys, EPost K (Inner B env σ vs D) ρ1 (wipeE env vs) (wipe σ vs) H1' ρi sti Hi ∧ Hi D = some (.lst accV) ∧ accV.length ≤ i ∧
    RVs K (Excl (Inner B env σ vs D) ρi (wipeE env vs) (wipe σ vs)) ρi Hi acc accV ∧ lcLoop b c t (wipeE env vs) (items.drop i) sti = .ok ys stf ∧ l = acc ++ ys
  have keepOf : ∀ {Hi ρi sti}, EPost K (Inner B env σ vs D) ρ1 (wipeE env vs) (wipe σ vs) H1' ρi sti Hi → Keep (fun a => a ∈ ρ1) H1' Hi := fun {Hi ρi sti} E a o e n => E.kp a o e n
  have E0 : EPost K (Inner B env σ vs D) ρ1 (wipeE env vs) (wipe σ vs) H1' ρ1 st1 (upd H1' D (.lst [])) := ⟨RW, List.prefix_rfl, fun a o e _ => Ext.new hD a o e, (fun a h z => by
    cases e : H1' a with
    | none => exact h e
    | some u => rw [Ext.new hD a u e] at z; cases z), fun _ h n => absurd h n⟩
  refine ⟨fun i m Hi => m = items.length - i ∧ i ≤ items.length ∧ Pw i Hi, ⟨items.length, by simp, Nat.zero_le _, ρ1, st1, [], [], l, E0, upd_same, Nat.le_refl _, .nil, hl, rfl⟩, ?_⟩
  rintro i m Hi ⟨rfl, hi, ρi, sti, acc, accV, ys, E, hDi, hlen, racc, hloop, hys⟩
  have kp := keepOf E
  by_cases hlt : i < items.length
  · -- a turn
    refine .inr ⟨IT.go i Hi hlt kp, fun Hn => ∃ m', m' < items.length - i ∧ (m' = items.length - (i + 1) ∧ i + 1 ≤ items.length ∧ Pw (i + 1) Hn), fun H' h' => h', fun x Hy hy => ?_⟩
    obtain ⟨EY, ry⟩ := IT.yld i Hi x Hy hlt kp hy
    have hitem : items[i]? = some items[i] := List.getElem?_eq_getElem hlt
    have lat : Later (Excl B ρ1 env σ) ρ1 H1' (Excl (Inner B env σ vs D) ρi (wipeE env vs) (wipe σ vs)) ρi Hi := by
      refine ⟨fun a o e n => ?_, fun a o e n => kp a o e fun z => n (.inr (.inl z)), E.pre, fun a h => E.rep.tr h⟩
      have n1 : Excl (Inner B env σ vs D) ρ1 (wipeE env vs) (wipe σ vs) a := by
        rcases n with n | n | n
        · exact .inl n
        · by_cases hz : a ∈ ρ1
          · exact .inr (.inl hz)
          · have q := E.fr a n hz
            rw [e] at q
            cases q
        · exact .inr (.inr n)
      rcases excl_inner.mp n1 with q | q
      · exact q
      · rw [q, hD] at e
        cases e
    have rx : RV K (Excl (Inner B env σ vs D) ρi (wipeE env vs) (wipe σ vs)) ρi Hy items[i] x := ry items[i] _ ρi hitem lat
    have EYp : EPost K (Inner B env σ vs D) ρi (wipeE env vs) (wipe σ vs) Hi ρi sti Hy := .ext E.rep EY
    have hdrop : items.drop i = items[i] :: items.drop (i + 1) := (List.drop_eq_getElem_cons hlt)
    rw [hdrop] at hloop
    unfold lcLoop at hloop
    cases hbv : b items[i] (wipeE env vs) with
    | none => rw [hbv] at hloop; cases hloop
    | some env2 =>
      rw [hbv] at hloop
      dsimp only at hloop
      obtain ⟨hb1, hb2⟩ := hb _ _ _ hbv
      refine ⟨Inner B env σ vs D, ρi, wipeE env vs, sti, items[i], env2, EYp.rep, rx, hbv, fun σ2 P2 hl2 hk2 => ⟨wipe_same (by rw [hl2, wipe_length]) (fun j hj => (hk2 j hj).trans (by rw [wipe_get, if_neg hj])), ?_⟩⟩
      -- the names of the block: owned ones are the same
      have ownB : ∀ a, Owned (wipeE env vs) (wipe σ vs) a ↔ Owned env2 σ2 a := fun a => by
        constructor
        · rintro ⟨j, m, e1, e2⟩
          have hj : j ∉ vs := fun z => by
            rw [wipeE_get, if_pos z] at e1
            split at e1 <;> cases e1
          exact ⟨j, m, (hb2 j hj).trans e1, (hk2 j hj).trans e2⟩
        · intro z
          rcases P2.ow a z with q | q
          · exact q
          · obtain ⟨xs, q2⟩ := P2.rep.oT z
            rw [q] at q2
            cases q2
      have exB : ∀ {ρx : List Addr} {a : Addr}, Excl (Inner B env σ vs D) ρx (wipeE env vs) (wipe σ vs) a ↔ Excl (Inner B env σ vs D) ρx env2 σ2 a := fun {ρx a} => by
        unfold Excl
        rw [ownB a]
      have EQ : ∀ {ρx : List Addr}, Excl (Inner B env σ vs D) ρx (wipeE env vs) (wipe σ vs) = Excl (Inner B env σ vs D) ρx env2 σ2 := fun {ρx} => funext fun a => propext exB
      -- back to the wiped names behind what the block did
      have backE : ∀ {ρx : List Addr} {stx : Sto} {Hx : Hp}, EPost K (Inner B env σ vs D) ρi env2 σ2 Hy ρx stx Hx → EPost K (Inner B env σ vs D) ρ1 (wipeE env vs) (wipe σ vs) H1' ρx stx Hx := fun {ρx stx Hx} F =>
        (E.trans EYp).trans ⟨Rep.back EYp.rep F.rep F.pre F.kp F.fr (fun _ _ => rfl) (fun _ _ e _ => e) (fun a n => exB.mp n) F.rep.rB, F.pre, F.kp, F.tr, F.fr⟩
      have inD : ∀ {ρx : List Addr} {stx : Sto} {Hx : Hp}, EPost K (Inner B env σ vs D) ρi env2 σ2 Hy ρx stx Hx → Hx D = some (.lst accV) := fun {ρx stx Hx} F => F.kp D _ (EY _ _ hDi) fun z => E.rep.rB D z (.inr (.inl rfl))
      have accE : ∀ {ρx : List Addr} {stx : Sto} {Hx : Hp}, EPost K (Inner B env σ vs D) ρi env2 σ2 Hy ρx stx Hx → RVs K (Excl (Inner B env σ vs D) ρx (wipeE env vs) (wipe σ vs)) ρx Hx acc accV := fun {ρx stx Hx} F => by
        have q := F.post.rvs (p := acc) (v := accV) (by rw [← EQ]; exact RVs.ext EY racc)
        rw [← EQ] at q
        exact q
      cases hcv : c env2 sti with
      | stuck => rw [hcv] at hloop; cases hloop
      | exc _ _ => rw [hcv] at hloop; cases hloop
      | ok k st2 =>
        rw [hcv] at hloop
        refine ⟨Inner B env σ vs D, ρi, env2, sti, P2.rep, ?_⟩
        rw [hcv]
        intro ρ3 H3 E3
        cases k with
        | false =>
          rw [if_neg Bool.false_ne_true]
          have hloop : lcLoop b c t (wipeE env vs) (items.drop (i + 1)) st2 = .ok ys stf := hloop
          exact ⟨items.length - (i + 1), by omega, rfl, hlt, ρ3, st2, acc, accV, ys, backE E3, inD E3, by omega, accE E3, hloop, hys⟩
        | true =>
          rw [if_pos rfl]
          have hloop : ((t env2 st2).noE.bind fun y st => (lcLoop b c t (wipeE env vs) (items.drop (i + 1)) st).bind fun ys st => .ok (y :: ys) st) = .ok ys stf := hloop
          cases htv : t env2 st2 with
          | stuck => rw [htv] at hloop; cases hloop
          | exc _ _ => rw [htv] at hloop; cases hloop
          | ok y st3 =>
            rw [htv] at hloop
            have hloop : ((lcLoop b c t (wipeE env vs) (items.drop (i + 1)) st3).bind fun ys st => .ok (y :: ys) st) = .ok ys stf := hloop
            refine ⟨Inner B env σ vs D, ρ3, env2, st2, E3.rep, ?_⟩
            rw [htv]
            intro ρ4 H4 E4 u ru
            have E34 := E3.trans E4
            have hD4 := inD E34
            have R4 := backE E34
            cases hrest : lcLoop b c t (wipeE env vs) (items.drop (i + 1)) st3 with
            | stuck => rw [hrest] at hloop; cases hloop
            | exc _ _ => rw [hrest] at hloop; cases hloop
            | ok zs stz =>
              rw [hrest] at hloop
              have e5 : y :: zs = ys ∧ stz = stf := by
                have q : RE.ok (y :: zs) stz = RE.ok ys stf := hloop
                cases q
                exact ⟨rfl, rfl⟩
              obtain ⟨e5, e6⟩ := e5
              subst e5 e6
              refine ⟨accV, hD4, ?_, items.length - (i + 1), by omega, rfl, hlt, ρ4, st3, acc ++ [y], accV ++ [u], zs, ?_, upd_same, ?_, ?_, hrest, ?_⟩
              · rw [← LINE_eq]
                have := IT.len
                omega
              · -- D is written
                refine ⟨R4.rep.inB (.inr (.inl rfl)), R4.pre, fun a o e n => ?_, fun a h => ?_, R4.fr⟩
                · rw [upd_ne (ne_of_none e hD)]
                  exact R4.kp a o e n
                · rw [upd_ne (fun z => h (by rw [z]; exact hD))]
                  exact R4.tr a h
              · rw [List.length_append, List.length_singleton]
                omega
              · have nD : ∀ a o, H4 a = some o → ¬ Excl (Inner B env σ vs D) ρ4 (wipeE env vs) (wipe σ vs) a → (upd H4 D (.lst (accV ++ [u]))) a = some o := fun a o e n => by
                  rw [upd_ne (fun z => n (by rw [z]; exact .inl (.inr (.inl rfl))))]
                  exact e
                rw [← EQ] at ru
                exact RVs.append (RVs.carry (fun _ _ _ z => z) nD List.prefix_rfl _ _ (accE E34)) (.cons (RV.carry (fun _ _ _ z => z) nD List.prefix_rfl _ _ ru) .nil)
              · rw [hys, List.append_assoc]
                rfl
  · -- the end
    have ei : i = items.length := by omega
    subst ei
    refine .inl ⟨IT.stop Hi kp, ?_⟩
    have e0 : ys = [] ∧ sti = stf := by
      rw [List.drop_length] at hloop
      have q : RE.ok [] sti = RE.ok ys stf := hloop
      cases q
      exact ⟨rfl, rfl⟩
    obtain ⟨e1, e2⟩ := e0
    subst e1 e2
    have e3 : l = acc := by rw [hys, List.append_nil]
    subst e3
    let Hz : Hp := fun a => if a = D then none else Hi a
    have zD : Hz D = none := if_pos rfl
    have zn : ∀ {a}, a ≠ D → Hz a = Hi a := fun h => if_neg h
    have nR : ∀ a ∈ ρi, a ≠ D := fun a h z => E.rep.rB a h (.inr (.inl z))
    have k0 : ∀ a o, H1' a = some o → a ∉ ρ1 → Hz a = some o := fun a o e n => by
      rw [zn (ne_of_none e hD)]
      exact E.kp a o e n
    have k1 : ∀ a o, Hi a = some o → ¬ Excl (Inner B env σ vs D) ρi (wipeE env vs) (wipe σ vs) a → Hz a = some o := fun a o e n => by
      rw [zn (fun z => n (by rw [z]; exact .inl (.inr (.inl rfl))))]
      exact e
    have less : ∀ a, Excl B ρi env σ a → Excl (Inner B env σ vs D) ρi (wipeE env vs) (wipe σ vs) a := fun a n => excl_inner.mpr (.inl n)
    have EZ : EPost K B ρ1 env σ H1' ρi sti Hz := ⟨Rep.back R1 E.rep E.pre k0 E.fr (fun a h => zn (nR a h)) k1 less fun a h z => E.rep.rB a h (.inl z), E.pre, k0, fun a h => by
      rw [zn (fun z => h (by rw [z]; exact hD))]
      exact E.tr a h, E.fr⟩
    refine h1 ρi Hz EZ D accV Hi zD ?_ (by have := IT.len; omega) (RVs.carry (fun a _ _ n => less a n) k1 List.prefix_rfl _ _ racc)
    funext a
    by_cases ha : a = D
    · rw [ha, upd_same, hDi]
    · rw [upd_ne ha, zn ha]
section
variable {X : Cx} {W : WX} {elt tg iter : Expr} {ifs : List Expr} {scope : Scope} {own : List (Str × Nat)} {pos : Pos} {it : EF (List PV)} {b : BF} {c : EF Bool} {t : EF PV}
theorem ml_lc (hb : BOk b (own.map (·.2))) (hc : X.calm = true) (hN : X.N.Nodup) (hi : MIc X W tg iter it) (ok : BlkOk X.N X.env.scope scope own)
    (hg : ∀ (s : Shared) (H : Hp) (C : Addr) (cl : List (Str × Addr)) (fp : List Addr), MG (X.blk s H scope (compEnvC scope cl C X.env) fp) tg b (own.map (·.2)))
    (ht : ∀ (s : Shared) (H : Hp) (C : Addr) (cl : List (Str × Addr)) (fp : List Addr), MTs (X.blk s H scope (compEnvC scope cl C X.env) fp) WF ifs c)
    (he : ∀ (s : Shared) (H : Hp) (C : Addr) (cl : List (Str × Addr)) (fp : List Addr), ME (X.blk s H scope (compEnvC scope cl C X.env) fp) WF elt t) (hs : ∀ x, foldedSetIterable iter X.env x = pure x := by intro _; rfl) :
    ML X W (.ListComp elt [⟨tg, iter, ifs, 0⟩] scope pos) (lLc it b (own.map (·.2)) c t) :=
  ⟨_, pe_lc hc hN hi.can ok (fun s H C cl fp => (hg s H C cl fp).can) (tt := canT X.K WF c) (fun s H C cl fp => ht s H C cl fp) (fun s H C cl fp => (he s H C cl fp).can) hs,
    fun B ρ env st σ H Q R h => lc_reads hb R h⟩
end
end PL
/-! PLf: the statements. -/
namespace PL
open PySem PySem.Spec L2
section
variable {X : Cx} {W : WX} {s : Stmt} {rest a b body : List Stmt} {e tg iter c : Expr} {f g : SF} {fe : EF PV} {fl it : EF (List PV)} {fc : EF Bool} {bf : BF} {vs : List Nat} {pos : Pos}
theorem mss_nil : MSs X W [] sNil := ⟨tNext, pss_nil, fun B ρ env st σ H D R h => h ρ σ H (.refl R)⟩
theorem refs_seq {t u : TS} (q1 : RefS X.K W t f) (q2 : RefS X.K W u g) : RefS X.K W (tSeq t u) (sSeq f g) := fun B ρ env st σ H D R h => by
  refine q1 B ρ env st σ H _ R ?_
  have h : SOk X.K W B ρ env σ H ((f env st).thn g) D := h
  cases hf : f env st with
  | nx e1 st1 =>
    rw [hf] at h
    exact fun ρ1 σ1 H1 P1 => q2 B ρ1 e1 st1 σ1 H1 D P1.rep (SOk.shift P1 h)
  | rt v st1 => rw [hf] at h; exact h
  | bk e1 st1 => rw [hf] at h; exact h
  | ct e1 st1 => rw [hf] at h; exact h
  | exc x e1 st1 => rw [hf] at h; exact h
  | stuck => rw [hf] at h; exact h
theorem mss_cons (h1 : MS X W s f) (h2 : MSs X W rest g) : MSs X W (s :: rest) (sSeq f g) := by
  obtain ⟨t, p1, q1⟩ := h1
  obtain ⟨u, p2, q2⟩ := h2
  exact ⟨tSeq t u, pss_cons p1 p2, refs_seq q1 q2⟩
/-- a name's own list is no longer changed from here on -/
theorem mss_frz {i : Nat} (h2 : MSs X W rest g) : MSs X W rest (sSeq (sFrz i) g) := by
  obtain ⟨u, p2, q2⟩ := h2
  refine ⟨u, p2, fun B ρ env st σ H D R h => ?_⟩
  have h : SOk X.K W B ρ env σ H ((sFrz i env st).thn g) D := h
  unfold sFrz at h
  cases e : env[i]? with
  | none => rw [e] at h; exact q2 B ρ env st σ H D R h
  | some ev =>
    rw [e] at h
    cases ev with
    | non => exact q2 B ρ env st σ H D R h
    | val v => exact q2 B ρ env st σ H D R h
    | own l =>
      have h : SOk X.K W B ρ env σ H (g (env.set i (.val (.lst l))) st) D := h
      have hi : i < env.length := (List.getElem?_eq_some_iff.mp e).1
      obtain ⟨p, xs, h1, h2, h3, h4⟩ := R.slot i _ e
      have ow : ∀ a, Owned (env.set i (.val (.lst l))) σ a → Owned env σ a ∧ a ≠ p := fun a ⟨j, m, e1, e2⟩ => by
        by_cases hj : i = j
        · subst hj
          rw [List.getElem?_set_self hi] at e1
          cases e1
        · rw [List.getElem?_set_ne hj] at e1
          exact ⟨⟨j, m, e1, e2⟩, fun z => hj (R.sep i j l m p e e1 h1 (by rw [← z]; exact e2))⟩
      have less : ∀ a, Excl B ρ (env.set i (.val (.lst l))) σ a → Excl B ρ env σ a := fun a n => by
        rcases n with n | n | n
        · exact .inl n
        · exact .inr (.inl n)
        · exact .inr (.inr (ow a n).1)
      have np : ¬ Excl B ρ (env.set i (.val (.lst l))) σ p := fun n => by
        rcases n with n | n | n
        · exact (R.oR p ⟨i, l, e, h1⟩).2 n
        · exact (R.oR p ⟨i, l, e, h1⟩).1 n
        · exact (ow p n).2 rfl
      have P : Post X.K B ρ env σ H ρ (env.set i (.val (.lst l))) st σ H := by
        refine R.re Ext.refl (by rw [List.length_set]; exact R.lenE) (fun a n => .inl (ow a n).1) (fun j ev hj => ?_) (fun j k m m' a e1 e2 e3 e4 => ?_)
        · by_cases hij : i = j
          · subst hij
            rw [List.getElem?_set_self hi] at hj
            cases hj
            exact .inr ⟨.ref p, h1, mk_lst np h2 h3 (RVs.carry (fun a _ _ n => less a n) (fun _ _ e _ => e) List.prefix_rfl _ _ h4)⟩
          · rw [List.getElem?_set_ne hij] at hj
            exact .inl ⟨hj, rfl⟩
        · have no : ∀ (j : Nat) (m : List PV), (env.set i (.val (.lst l)))[j]? = some (EV.own m) → env[j]? = some (EV.own m) := fun j m q => by
            by_cases hij : i = j
            · subst hij
              rw [List.getElem?_set_self hi] at q
              cases q
            · rw [List.getElem?_set_ne hij] at q
              exact q
          exact R.sep j k m m' a (no j m e1) (no k m' e2) e3 e4
      exact q2 B ρ _ st σ H D P.rep (SOk.shift P h)
theorem ms_never : MS X W s sNever := ⟨tNever, ps_never, fun B ρ env st σ H D R h => h.elim⟩
theorem ms_ret (h : ME X W e fe) : MS X W (.Return (some e) pos) (sRet fe) := by
  obtain ⟨t, p, q⟩ := h
  refine ⟨_, ps_ret p, fun B ρ env st σ H D R h => ?_⟩
  refine q B ρ env st σ H _ R (ROk.mono (SOk.toS h) fun v ρ1 st1 H1 E1 h1 u ru => ?_)
  refine h1 ρ1 env σ H1 u (.refl E1.rep) (RV.carry (fun a o _ n => ?_) (fun _ _ e _ => e) List.prefix_rfl _ _ ru)
  rcases n with n | n | n
  · exact .inl n
  · exact .inr (.inl n)
  · obtain ⟨j, m, e1, _⟩ := n
    simp at e1
/-- a new list is handed back as a thing of the store -/
theorem ms_retG (h : ML X W e fl) : MS X W (.Return (some e) pos) (sRetG fl) := by
  obtain ⟨t, p, q⟩ := h
  refine ⟨_, ps_ret p, fun B ρ env st σ H D R h => ?_⟩
  refine q B ρ env st σ H _ R (ROk.mono (SOk.toS h) fun l ρ1 st1 H1 E1 h1 p xs H2 np e2 hl rxs => ?_)
  subst e2
  have R1 := E1.rep
  have pn : p ∉ ρ1 := fun z => R1.rT p z np
  have pb : ¬ B p := fun z => R1.bT p z np
  have po : ¬ Owned env σ p := fun z => R1.tr (.inr (.inr z)) np
  have less : ∀ a o, H1 a = some o → Excl B (ρ1 ++ [p]) env σ a → Excl B ρ1 env σ a := fun a o e n => by
    rcases n with n | n | n
    · exact .inl n
    · rcases List.mem_append.mp n with n | n
      · exact .inr (.inl n)
      · have z : a = p := by simpa using n
        rw [z, np] at e
        cases e
    · exact .inr (.inr n)
  have EX : Ext H1 (upd H1 p (.lst xs)) := .new np
  have kk : ∀ a o, H1 a = some o → ¬ Excl B ρ1 env σ a → (upd H1 p (.lst xs)) a = some o := fun a o e _ => EX a o e
  have tr : ∀ a, H1 a ≠ none → (upd H1 p (.lst xs)) a ≠ none := fun a h z => by
    cases e : H1 a with
    | none => exact h e
    | some o => rw [EX a o e] at z; cases z
  have pre : ρ1 <+: ρ1 ++ [p] := List.prefix_append ρ1 [p]
  have RR : Rep X.K B (ρ1 ++ [p]) env (st1 ++ [.lst l]) σ (upd H1 p (.lst xs)) := by
    refine ⟨R1.lenE, by simp [R1.lenC], ?_, fun n c a h1 h2 => ?_, fun a h => ?_, fun a h => ?_, fun a h => (R1.bN a h).keep fun o e => EX a o e, fun i ev h => ?_, fun a h => ⟨fun z => ?_, (R1.oR a h).2⟩, R1.sep⟩
    · exact List.nodup_append.mpr ⟨R1.nd, by simp, fun a ha c hc z => pn (by
        have : c = p := by simpa using hc
        rw [← this, ← z]; exact ha)⟩
    · by_cases hn : n < st1.length
      · rw [List.getElem?_append_left hn] at h1
        rw [List.getElem?_append_left (by rw [R1.lenC]; exact hn)] at h2
        have q := R1.cell n c a h1 h2
        exact q.carry less kk pre fun o q1 => EX _ _ q1
      · rw [List.getElem?_append_right (by omega)] at h1
        rw [List.getElem?_append_right (by rw [R1.lenC]; omega), R1.lenC] at h2
        have e0 : n - st1.length = 0 := by
          by_cases h0 : n - st1.length = 0
          · exact h0
          · rw [List.getElem?_eq_none (by simp; omega)] at h1
            cases h1
        rw [e0] at h1 h2
        cases h1
        cases h2
        exact ⟨xs, upd_same, hl, RVs.carry less kk pre _ _ rxs⟩
    · rcases List.mem_append.mp h with h | h
      · exact tr a (R1.rT a h)
      · have z : a = p := by simpa using h
        rw [z, upd_same]
        exact fun y => by cases y
    · rcases List.mem_append.mp h with h | h
      · exact R1.rB a h
      · have z : a = p := by simpa using h
        rw [z]
        exact pb
    · have q := R1.slot i ev h
      cases ev with
      | non => trivial
      | val v =>
        obtain ⟨w, q1, q2⟩ := q
        exact ⟨w, q1, RV.carry less kk pre _ _ q2⟩
      | own m =>
        obtain ⟨a, ys, q0, q1, q2, q3⟩ := q
        exact ⟨a, ys, q0, EX _ _ q1, q2, RVs.carry less kk pre _ _ q3⟩
    · rcases List.mem_append.mp z with z | z
      · exact (R1.oR a h).1 z
      · have z : a = p := by simpa using z
        rw [z] at h
        exact po h
  have PP : Post X.K B ρ1 env σ H1 (ρ1 ++ [p]) env (st1 ++ [.lst l]) σ (upd H1 p (.lst xs)) := by
    refine ⟨RR, pre, fun a o e _ _ => EX a o e, tr, fun a h n => ?_, fun a h => .inl h⟩
    rcases List.mem_append.mp h with h | h
    · exact absurd h n
    · have z : a = p := by simpa using h
      rw [z]
      exact np
  refine h1 (ρ1 ++ [p]) env σ _ (.ref p) PP ?_
  unfold RV
  refine ⟨p, rfl, ?_⟩
  rw [List.getElem?_append_right (by rw [R1.lenC]; exact Nat.le_refl _), R1.lenC, Nat.sub_self]
  rfl
/-- a name's own list is handed back -/
theorem ms_retO {i : Nat} {x : Str} {pos' : Pos} (hN : X.N[i]? = some x) (hv : Vis X.env.scope x) (hd : (x == ("__debug__" : Str)) = false := by decide) (hcd : (x == ("__classdict__" : Str)) = false := by decide) : MS X W (.Return (some (.Name x pos')) pos) (sRetO i) := by
  refine ⟨_, ps_ret (pe_var hN hv hd hcd), fun B ρ env st σ H D R h => ?_⟩
  unfold sRetO at h
  cases q : env[i]? with
  | none => rw [q] at h; exact h.elim
  | some ev =>
    rw [q] at h
    cases ev with
    | non => exact h.elim
    | val p => exact h.elim
    | own l =>
      obtain ⟨z, xs, h1, h2, h3, h4⟩ := R.slot i _ q
      obtain ⟨o1, o2⟩ := R.oR z ⟨i, l, q, h1⟩
      refine ⟨.ref z, h1, h ρ env σ H _ (.refl R) (mk_lst (fun n => ?_) h2 h3 (RVs.carry (fun a o _ n => ?_) (fun _ _ e _ => e) List.prefix_rfl _ _ h4))⟩
      · rcases n with n | n | n
        · exact o2 n
        · exact o1 n
        · obtain ⟨j, m, e1, _⟩ := n
          simp at e1
      · rcases n with n | n | n
        · exact .inl n
        · exact .inr (.inl n)
        · obtain ⟨j, m, e1, _⟩ := n
          simp at e1
theorem ms_if (hc : MT X W c fc) (ha : MSs X W a f) (hb : MSs X W b g) : MS X W (.If c a b pos) (sIf fc f g) := by
  obtain ⟨tc, pc, qc⟩ := hc
  obtain ⟨ta, pa, qa⟩ := ha
  obtain ⟨tb, pb, qb⟩ := hb
  refine ⟨_, ps_if pc pa pb, fun B ρ env st σ H D R h => ?_⟩
  refine qc B ρ env st σ H _ R (ROk.mono (SOk.toS h) fun k ρ1 st1 H1 E1 h1 => ?_)
  cases k with
  | true => rw [if_pos rfl]; rw [if_pos rfl] at h1; exact qa B ρ1 env st1 σ H1 D E1.rep h1
  | false => rw [if_neg Bool.false_ne_true]; rw [if_neg Bool.false_ne_true] at h1; exact qb B ρ1 env st1 σ H1 D E1.rep h1
/-- an expression for its effect -/
theorem ms_expr (h : ME X W e fe) (hs : swapsWith e none pos.line X.env = pure false := by rfl) : MS X W (.Expr e pos) (sDrop fe) := by
  obtain ⟨t, p, q⟩ := h
  refine ⟨_, ps_expr p hs, fun B ρ env st σ H D R h => ?_⟩
  exact q B ρ env st σ H _ R (ROk.mono (SOk.toS h) fun v ρ1 st1 H1 E1 h1 u ru => h1 ρ1 σ H1 (.refl E1.rep))
/-- target = value -/
theorem ms_asg (h : ME X W e fe) (hg : MG X tg bf vs) (hs : swapsWithSole [tg] e pos.line X.env = pure false := by rfl) (hw : swappedStores [tg] e X.env = pure none := by rfl)
    (h1 : (assignEach [tg] X.env).map (·.2) = [assign tg X.env] := by rfl) : MS X W (.Assign [tg] e pos) (sAsg bf fe) := by
  obtain ⟨t, p, q⟩ := h
  obtain ⟨_, g, pg, qg⟩ := hg
  refine ⟨_, ps_asg p pg hs hw h1, fun B ρ env st σ H D R h => ?_⟩
  refine q B ρ env st σ H _ R (ROk.mono (SOk.toS h) fun v ρ1 st1 H1 E1 h1 u ru => ?_)
  cases e1 : bf v env with
  | none => rw [e1] at h1; exact h1.elim
  | some env1 =>
    rw [e1] at h1
    exact qg B ρ1 env st1 σ H1 v u env1 _ E1.rep ru e1 fun σ1 P1 _ _ => h1 ρ1 σ1 H1 P1
/-- name = value -/
theorem ms_set {i : Nat} {x : Str} {pos' : Pos} (h : ME X W e fe) (hN : X.N.Nodup) (hi : X.N[i]? = some x) (hx : Loc X.env.scope x) (hs : swapsWith e (some (.Name x pos')) pos.line X.env = pure false := by rfl) (hf : X.fn x = true ∨ X.env.scope.names.lookup x = some .local := by first | exact .inl rfl | exact .inr rfl | assumption) :
    MS X W (.Assign [.Name x pos'] e pos) (sAsg (bName i) fe) := by
  obtain ⟨t, p, q⟩ := h
  refine ⟨_, ps_set hN hi hx p hs hf, fun B ρ env st σ H D R h => ?_⟩
  refine q B ρ env st σ H _ R (ROk.mono (SOk.toS h) fun v ρ1 st1 H1 E1 h1 u ru => ?_)
  unfold bName at h1
  by_cases hl : i < env.length
  · rw [if_pos hl] at h1
    exact h1 ρ1 _ H1 (E1.rep.setVal hl ru)
  · rw [if_neg hl] at h1
    exact h1.elim
/-- name = a new list, its own -/
theorem ms_setO {i : Nat} {x : Str} {pos' : Pos} (h : ML X W e fl) (hN : X.N.Nodup) (hi : X.N[i]? = some x) (hx : Loc X.env.scope x) (hs : swapsWith e (some (.Name x pos')) pos.line X.env = pure false := by rfl) (hf : X.fn x = true ∨ X.env.scope.names.lookup x = some .local := by first | exact .inl rfl | exact .inr rfl | assumption) :
    MS X W (.Assign [.Name x pos'] e pos) (sAsgO i fl) := by
  obtain ⟨t, p, q⟩ := h
  refine ⟨_, ps_set hN hi hx p hs hf, fun B ρ env st σ H D R h => ?_⟩
  refine q B ρ env st σ H _ R (ROk.mono (SOk.toS h) fun l ρ1 st1 H1 E1 h1 p xs H2 np e2 hl rxs => ?_)
  subst e2
  by_cases hl2 : i < env.length
  · rw [if_pos hl2] at h1
    exact h1 ρ1 _ _ (E1.rep.setOwn hl2 np hl rxs)
  · rw [if_neg hl2] at h1
    exact h1.elim
end
section
variable {X : Cx} {W : WX} {elt tg iter : Expr} {ifs : List Expr} {scope : Scope} {own : List (Str × Nat)} {pos spos py : Pos} {it : EF (List PV)} {b : BF} {c : EF Bool} {t : EF PV} {i : Nat} {y : Str}
/-- name = [..] on one line, the name a local: as a value that never changes -/
theorem ms_setLc (hb : BOk b (own.map (·.2))) (hc : X.calm = true) (hN : X.N.Nodup) (hy : X.N[i]? = some y) (hyl : X.env.scope.names.lookup y = some .local)
    (hsw : swapsWith (.ListComp elt [⟨tg, iter, ifs, 0⟩] scope pos) (some (.Name y py)) spos.line X.env = pure true) (hi : MIc X W tg iter it) (ok : BlkOk X.N X.env.scope scope own)
    (hg : ∀ (s : Shared) (H : Hp) (C : Addr) (cl : List (Str × Addr)) (fp : List Addr), MG (X.blk s H scope (compEnvC scope cl C X.env) fp) tg b (own.map (·.2)))
    (ht : ∀ (s : Shared) (H : Hp) (C : Addr) (cl : List (Str × Addr)) (fp : List Addr), MTs (X.blk s H scope (compEnvC scope cl C X.env) fp) WF ifs c)
    (he : ∀ (s : Shared) (H : Hp) (C : Addr) (cl : List (Str × Addr)) (fp : List Addr), ME (X.blk s H scope (compEnvC scope cl C X.env) fp) WF elt t) (hs : ∀ x, foldedSetIterable iter X.env x = pure x := by intro _; rfl) :
    MS X W (.Assign [.Name y py] (.ListComp elt [⟨tg, iter, ifs, 0⟩] scope pos) spos) (sAsg (bName i) (eLst (lLc it b (own.map (·.2)) c t))) := by
  refine ⟨_, L2.ps_setLc (i := i) (g := canG X.K b (own.map (·.2))) (wi := canI X.K W it) hc hN hy hyl hsw hi.can ok (fun s H C cl fp => (hg s H C cl fp).can) (tt := canT X.K WF c) (te := canE X.K WF t) (fun s H C cl fp => ht s H C cl fp) (fun s H C cl fp => (he s H C cl fp).can) hs, fun B ρ env st σ H D R h => ?_⟩
  refine lc_reads hb R (ROk.mono (ROk.bind (SOk.toS h)) fun l ρ1 st1 H1 E1 h1 p xs H2 np e2 hl rxs => ?_)
  subst e2
  have EE : EPost X.K B ρ1 env σ H1 ρ1 st1 (upd H1 p (.lst xs)) := .ext E1.rep (.new np)
  have h1 := h1 ρ1 _ EE
  dsimp only at h1
  unfold bName at h1
  by_cases hl2 : i < env.length
  · rw [if_pos hl2] at h1
    exact h1 ρ1 _ _ (EE.rep.setVal hl2 (mk_lst (E1.rep.fresh np) upd_same hl (EE.post.rvs rxs)))
  · rw [if_neg hl2] at h1
    exact h1.elim
end
/-! ### loops -/
section
variable {K : PySem.W.Frag} {W : WX} {B : Addr → Prop} {ρ : List Addr} {env : Env} {st : Sto} {σ : L2.St} {H : Hp} {D : Ends}
/-- one item's turn, then the others' -/
theorem for_turn {b : BF} {t : SF} {x : PV} {xs : List PV} {env1 : Env} {P : St → Hp → Prop} (hb : b x env = some env1) (h : SOk K W B ρ env σ H (forLoop b t (x :: xs) env st) D)
    (hP : ∀ {e2 st2 ρ2 σ2 H2}, Post K B ρ env σ H ρ2 e2 st2 σ2 H2 → SOk K W B ρ2 e2 σ2 H2 (forLoop b t xs e2 st2) D → P σ2 H2) : SOk K W B ρ env σ H (t env1 st) { D with nx := P, ct := P, bk := D.nx } := by
  unfold forLoop at h
  rw [hb] at h
  dsimp only at h
  cases ht : t env1 st with
  | nx e2 st2 => rw [ht] at h; exact fun ρ2 σ2 H2 P2 => hP P2 (SOk.shift P2 h)
  | ct e2 st2 => rw [ht] at h; exact fun ρ2 σ2 H2 P2 => hP P2 (SOk.shift P2 h)
  | bk e2 st2 => rw [ht] at h; exact h
  | rt v st2 => rw [ht] at h; exact h
  | exc x e2 st2 => rw [ht] at h; exact h
  | stuck => rw [ht] at h; exact h
end
section
variable {X : Cx} {W : WX} {tg iter c : Expr} {body : List Stmt} {it : EF (List PV)} {b : BF} {vs : List Nat} {t : SF} {fc : EF Bool} {pos : Pos}
theorem ms_for (hp : PassesOwn (model X.prog X.w) X.A X.env X.xe) (hc : X.calm = true) (hi : MI X W tg iter it) (hg : MG X tg b vs) (hb : MSs X W body t) (hs : ∀ x, foldedSetIterable iter X.env x = pure x := by intro _; rfl) : MS X W (.For tg iter body [] pos) (sFor it b t) := by
  obtain ⟨wi, pi, qi⟩ := hi
  obtain ⟨hbok, g, pg, qg⟩ := hg
  obtain ⟨tb, pb, qb⟩ := hb
  refine ⟨_, ps_for hp hc pi pg pb hs, fun B ρ env st σ H D R h => ?_⟩
  refine qi B ρ env st σ H _ R (ROk.mono (SOk.toS h) fun items ρ1 st1 H1 E1 h1 J H1' EX IT => ?_)
  have EE : EPost X.K B ρ1 env σ H1 ρ1 st1 H1' := .ext E1.rep EX
  have h1 := SOk.shift EE.post h1
  let Pw : Nat → L2.St → Hp → Prop := fun i σi Hi => ∃ ρi ei sti, Post X.K B ρ1 env σ H1' ρi ei sti σi Hi ∧ SOk X.K W B ρi ei σi Hi (forLoop b t (items.drop i) ei sti) D
  refine ⟨fun i m σi Hi => m = items.length - i ∧ i ≤ items.length ∧ Pw i σi Hi, ⟨items.length, by simp, Nat.zero_le _, ρ1, env, st1, .refl EE.rep, by rw [List.drop_zero]; exact h1⟩, ?_⟩
  rintro i m σi Hi ⟨rfl, hi, ρi, ei, sti, Pi, hk⟩
  have kp : Keep (Excl B ρ1 env σ) H1' Hi := Pi.later.keep
  by_cases hlt : i < items.length
  · refine .inr ⟨IT.go i Hi hlt kp, fun σ' H' => ∃ m', m' < items.length - i ∧ (m' = items.length - (i + 1) ∧ i + 1 ≤ items.length ∧ Pw (i + 1) σ' H'), fun σ' H' h' => h', fun x Hy hy => ?_⟩
    obtain ⟨EY, ry⟩ := IT.yld i Hi x Hy hlt kp hy
    have hitem : items[i]? = some items[i] := List.getElem?_eq_getElem hlt
    have rx := ry items[i] _ ρi hitem Pi.later
    have EYp : EPost X.K B ρi ei σi Hi ρi sti Hy := .ext Pi.rep EY
    rw [List.drop_eq_getElem_cons hlt] at hk
    have hk := SOk.shift EYp.post hk
    cases hbv : b items[i] ei with
    | none => unfold forLoop at hk; rw [hbv] at hk; exact hk.elim
    | some env2 =>
      refine qg B ρi ei sti σi Hy items[i] x env2 _ EYp.rep rx hbv fun σ2 P2 _ _ => ?_
      refine qb B ρi env2 sti σ2 Hy _ P2.rep (SOk.shift P2 (for_turn hbv hk fun {e3 st3 ρ3 σ3 H3} P3 h3 => ?_))
      exact ⟨items.length - (i + 1), by omega, rfl, hlt, ρ3, e3, st3, (Pi.trans EYp.post).trans P3, h3⟩
  · have ei' : i = items.length := by omega
    subst ei'
    rw [List.drop_length] at hk
    exact .inl ⟨IT.stop Hi kp, hk ρi σi Hi (.refl Pi.rep)⟩
end
end PL
/-! PLg: lists that change; things of the store; defs and their calls. -/
namespace PL
variable {Zg : Prop}
open PySem PySem.Spec L2
section
variable {K : PySem.W.Frag} {B : Addr → Prop} {ρ : List Addr} {env : Env} {st : Sto} {σ : L2.St} {H : Hp}
theorem own_same {i : Nat} {l m : List PV} (e : env[i]? = some (.own l)) (a : Addr) : Owned (env.set i (.own m)) σ a ↔ Owned env σ a := by
  have hi : i < env.length := (List.getElem?_eq_some_iff.mp e).1
  constructor
  · rintro ⟨j, k, h1, h2⟩
    by_cases hj : i = j
    · subst hj
      exact ⟨i, l, e, h2⟩
    · rw [List.getElem?_set_ne hj] at h1
      exact ⟨j, k, h1, h2⟩
  · rintro ⟨j, k, h1, h2⟩
    by_cases hj : i = j
    · subst hj
      exact ⟨i, m, List.getElem?_set_self hi, h2⟩
    · exact ⟨j, k, by rw [List.getElem?_set_ne hj]; exact h1, h2⟩
/-- a name's own list is written -/
theorem Rep.ownWrite (R : Rep K B ρ env st σ H) {i : Nat} {l m : List PV} {a : Addr} {ys : List V} (e : env[i]? = some (.own l)) (ea : σ[i]? = some (some (.ref a))) (hl : ys.length ≤ LINE) (r : RVs K (Excl B ρ env σ) ρ H m ys) :
    Post K B ρ env σ H ρ (env.set i (.own m)) st σ (upd H a (.lst ys)) := by
  have hi : i < env.length := (List.getElem?_eq_some_iff.mp e).1
  have oa : Owned env σ a := ⟨i, l, e, ea⟩
  obtain ⟨n1, n2⟩ := R.oR a oa
  have EQ : Excl B ρ (env.set i (.own m)) σ = Excl B ρ env σ := funext fun b => propext (by unfold Excl; rw [own_same e])
  have k1 : ∀ b u, H b = some u → ¬ Excl B ρ env σ b → (upd H a (.lst ys)) b = some u := fun b u h n => by
    rw [upd_ne (fun z => n (by rw [z]; exact .inr (.inr oa)))]
    exact h
  have tr : ∀ b, H b ≠ none → (upd H a (.lst ys)) b ≠ none := fun b h => by
    by_cases hb : b = a
    · rw [hb, upd_same]
      exact fun z => by cases z
    · rw [upd_ne hb]
      exact h
  refine ⟨⟨by rw [List.length_set]; exact R.lenE, R.lenC, R.nd, fun n c b h1 h2 => ?_, fun b h => tr b (R.rT b h), R.rB, fun b h => (R.bN b h).keep fun o e => by rw [upd_ne (fun z => n2 (by rw [← z]; exact h))]; exact e, fun j ev h => ?_, fun b h => R.oR b ((own_same e b).mp h), fun j k l1 l2 b h1 h2 h3 h4 => ?_⟩,
    List.prefix_rfl, fun b u h _ n => ?_, tr, fun _ h n => absurd h n, fun b h => .inl ((own_same e b).mp h)⟩
  · have q := R.cell n c b h1 h2
    rw [EQ]
    exact q.carry (fun _ _ _ z => z) k1 List.prefix_rfl fun o q1 => by rw [upd_ne (fun z => n1 (by rw [← z]; exact List.mem_of_getElem? h2))]; exact q1
  · rw [EQ]
    by_cases hj : i = j
    · subst hj
      rw [List.getElem?_set_self hi] at h
      cases h
      exact ⟨a, ys, ea, upd_same, hl, RVs.carry (fun _ _ _ z => z) k1 List.prefix_rfl _ _ r⟩
    · rw [List.getElem?_set_ne hj] at h
      have q := R.slot j ev h
      cases ev with
      | non => trivial
      | val p =>
        obtain ⟨v, q1, q2⟩ := q
        exact ⟨v, q1, RV.carry (fun _ _ _ z => z) k1 List.prefix_rfl _ _ q2⟩
      | own k =>
        obtain ⟨b, xs, q0, q1, q2, q3⟩ := q
        have nb : b ≠ a := fun z => hj (R.sep i j l k a e h ea (by rw [← z]; exact q0))
        exact ⟨b, xs, q0, by rw [upd_ne nb]; exact q1, q2, RVs.carry (fun _ _ _ z => z) k1 List.prefix_rfl _ _ q3⟩
  · have no : ∀ (j : Nat) (k : List PV), (env.set i (EV.own m))[j]? = some (EV.own k) → ∃ k', env[j]? = some (EV.own k') := fun j k h => by
      by_cases hj : i = j
      · subst hj
        exact ⟨l, e⟩
      · rw [List.getElem?_set_ne hj] at h
        exact ⟨k, h⟩
    obtain ⟨k1, e1⟩ := no j l1 h1
    obtain ⟨k2, e2⟩ := no k l2 h2
    exact R.sep j k k1 k2 b e1 e2 h3 h4
  · rw [upd_ne (fun z => n (by rw [z]; exact oa))]
    exact h
/-- a list of the store is written -/
theorem Rep.cellWrite (R : Rep K B ρ env st σ H) {n : Nat} {l m : List PV} {a : Addr} {ys : List V} (e : st[n]? = some (.lst l)) (ea : ρ[n]? = some a) (hl : ys.length ≤ LINE) (r : RVs K (Excl B ρ env σ) ρ H m ys) :
    Post K B ρ env σ H ρ env (st.set n (.lst m)) σ (upd H a (.lst ys)) := by
  have hn : n < st.length := (List.getElem?_eq_some_iff.mp e).1
  have ra : a ∈ ρ := List.mem_of_getElem? ea
  have k1 : ∀ b u, H b = some u → ¬ Excl B ρ env σ b → (upd H a (.lst ys)) b = some u := fun b u h n => by
    rw [upd_ne (fun z => n (by rw [z]; exact .inr (.inl ra)))]
    exact h
  have tr : ∀ b, H b ≠ none → (upd H a (.lst ys)) b ≠ none := fun b h => by
    by_cases hb : b = a
    · rw [hb, upd_same]
      exact fun z => by cases z
    · rw [upd_ne hb]
      exact h
  refine ⟨⟨R.lenE, by rw [List.length_set]; exact R.lenC, R.nd, fun k c b h1 h2 => ?_, fun b h => tr b (R.rT b h), R.rB, fun b h => (R.bN b h).keep fun o e => by rw [upd_ne (fun z => R.rB a ra (by rw [← z]; exact h))]; exact e, fun j ev h => ?_, R.oR, R.sep⟩,
    List.prefix_rfl, fun b u h n _ => ?_, tr, fun _ h n => absurd h n, fun b h => .inl h⟩
  · by_cases hk : n = k
    · subst hk
      rw [List.getElem?_set_self hn] at h1
      cases h1
      rw [ea] at h2
      cases h2
      exact ⟨ys, upd_same, hl, RVs.carry (fun _ _ _ z => z) k1 List.prefix_rfl _ _ r⟩
    · rw [List.getElem?_set_ne hk] at h1
      have q := R.cell k c b h1 h2
      have nb : b ≠ a := fun z => hk (by
        subst z
        obtain ⟨g1, e1⟩ := List.getElem?_eq_some_iff.mp ea
        obtain ⟨g2, e2⟩ := List.getElem?_eq_some_iff.mp h2
        exact (List.getElem_inj R.nd).mp (e1.trans e2.symm))
      exact q.carry (fun _ _ _ z => z) k1 List.prefix_rfl fun o q1 => by rw [upd_ne nb]; exact q1
  · have q := R.slot j ev h
    cases ev with
    | non => trivial
    | val p =>
      obtain ⟨v, q1, q2⟩ := q
      exact ⟨v, q1, RV.carry (fun _ _ _ z => z) k1 List.prefix_rfl _ _ q2⟩
    | own k =>
      obtain ⟨b, xs, q0, q1, q2, q3⟩ := q
      have nb : b ≠ a := fun z => (R.oR b ⟨j, k, h, q0⟩).1 (by rw [z]; exact ra)
      exact ⟨b, xs, q0, by rw [upd_ne nb]; exact q1, q2, RVs.carry (fun _ _ _ z => z) k1 List.prefix_rfl _ _ q3⟩
  · rw [upd_ne (fun z => n (by rw [z]; exact ra))]
    exact h
end
section
variable {X : Cx} {W : WX} {e o k a b : Expr} {es : List Expr} {fe fo fk fa fb : EF PV} {fl g : EF (List PV)} {pos apos cpos pos' : Pos} {i : Nat} {x : Str}
/-- x.append(e), x's own list -/
theorem ms_app (h : ME X W e fe) (hN : X.N[i]? = some x) (hv : Vis X.env.scope x) (hd : (x == ("__debug__" : Str)) = false := by decide) (hcd : (x == ("__classdict__" : Str)) = false := by decide)
    (hbase : attributeBase (.Name x pos') "append" X.env (eval (.Name x pos') X.env) = eval (.Name x pos') X.env := by rfl)
    (hfew : ((backTo cpos (starEach [e] X.env)).all (fun x => !x.1) && (backToKw cpos (keywordEach [] X.env)).all (fun x => x.1.isSome) && decide ([e].length + ([] : List Keyword).length + (if ([] : List Keyword).isEmpty then 0 else 1) < 30)) = true := by rfl)
    (hline : (apos.endLine == cpos.line) = true := by rfl) (hs : starEach [e] X.env = (false, eval e X.env) :: starEach [] X.env := by rfl) (hplain : (backTo cpos (starEach [] X.env)).any (·.1) = false := by rfl)
    (hsw : swapsWith (.Call (.Attribute (.Name x pos') "append" apos) [e] [] cpos) none pos.line X.env = pure false := by rfl) :
    MS X W (.Expr (.Call (.Attribute (.Name x pos') "append" apos) [e] [] cpos) pos) (sApp i fe) := by
  obtain ⟨t, p, q⟩ := h
  refine ⟨_, ps_expr (pe_bm PySem.F.plainAttrs_list PySem.F.slot_list_append PySem.F.type_list_append mt_append (pe_var hN hv hd hcd) (pa_cons p pa_nil hs) hbase hfew hline hs hplain) hsw, fun B ρ env st σ H D R h => ?_⟩
  unfold sApp at h
  cases e0 : env[i]? with
  | none => rw [e0] at h; exact h.elim
  | some ev =>
    rw [e0] at h
    cases ev with
    | non => exact h.elim
    | val _ => exact h.elim
    | own l =>
      obtain ⟨z, xs, h1, h2, h3, h4⟩ := R.slot i _ e0
      refine ⟨.ref z, h1, .inl ⟨rfl, xs, SqL.of h2⟩, ?_⟩
      refine q B ρ env st σ H _ R (ROk.mono (SOk.toS h) fun v ρ1 st1 H1 E1 k1 u ru => ?_)
      obtain ⟨z', xs', g1, g2, g3, g4⟩ := E1.rep.slot i _ e0
      rw [h1] at g1
      cases g1
      by_cases hl : l.length < LINE
      · rw [if_pos hl] at k1
        have hl2 : (xs' ++ [u]).length ≤ LINE := by rw [List.length_append, g4.len, List.length_singleton]; omega
        exact ⟨z, xs', u, rfl, rfl, g2, by rw [← LINE_eq, g4.len]; exact hl, k1 ρ1 σ _ (E1.rep.ownWrite e0 h1 hl2 (g4.append (.cons ru .nil)))⟩
      · rw [if_neg hl] at k1
        exact k1.elim
/-- a[k] = v, a thing of the store -/
theorem ms_setG (he : ME X W e fe) (ho : ME X W o fo) (hk : ME X W k fk)
    (ha : ∀ v, assign (.Subscript o k pos') X.env v = (do
      let ov ← holding [v] (eval o X.env)
      let iv ← holding [v, ov] (eval k X.env)
      standAt pos'
      holding [v, ov, iv] (setItem ov iv v)
      release [v, ov, iv] []) := by intro _; rfl)
    (hs : swapsWithSole [.Subscript o k pos'] e pos.line X.env = pure false := by rfl) (hw : swappedStores [.Subscript o k pos'] e X.env = pure none := by rfl)
    (h1 : (assignEach [.Subscript o k pos'] X.env).map (·.2) = [assign (.Subscript o k pos') X.env] := by rfl) : MS X W (.Assign [.Subscript o k pos'] e pos) (sSetG fo fk fe) := by
  obtain ⟨t1, p1, q1⟩ := he
  obtain ⟨t2, p2, q2⟩ := ho
  obtain ⟨t3, p3, q3⟩ := hk
  refine ⟨_, ps_asg p1 (pg_sub p2 p3 set_list ha) hs hw h1, fun B ρ env st σ H D R h => ?_⟩
  refine q1 B ρ env st σ H _ R (ROk.mono (SOk.toS h) fun v ρ1 st1 H1 E1 h1 u ru => ?_)
  refine q2 B ρ1 env st1 σ H1 _ E1.rep (ROk.mono (SOk.toS h1) fun a ρ2 st2 H2 E2 h2 w rw' => ?_)
  refine q3 B ρ2 env st2 σ H2 _ E2.rep (ROk.mono (SOk.toS h2) fun c ρ3 st3 H3 E3 h3 y ry => ?_)
  cases a with
  | gl n =>
    cases c with
    | int j =>
      dsimp only at h3
      cases es : st3[n]? with
      | none => rw [es] at h3; exact h3.elim
      | some cl =>
        rw [es] at h3
        cases cl with
        | dead => exact h3.elim
        | dk _ => exact h3.elim
        | dt _ => exact h3.elim
        | tbl _ _ => exact h3.elim
        | ins _ _ _ => exact h3.elim
        | lst l =>
          dsimp only at h3
          cases ei : ixN l.length j with
          | none => rw [ei] at h3; exact h3.elim
          | some jj =>
            rw [ei] at h3
            obtain ⟨z, rfl, hz⟩ := rv_gl (E3.post.rv rw')
            have ey := rv_int ry
            subst ey
            obtain ⟨xs, c1, c2, c3⟩ := E3.rep.cell n _ z es hz
            refine ⟨z, xs, j, jj, rfl, rfl, c1, by rw [c3.len]; exact ei, h3 ρ3 σ _ (E3.rep.cellWrite es hz (by rw [List.length_set]; exact c2) (RVs.set ((E2.trans E3).post.rv ru) jj c3))⟩
    | _ => exact h3.elim
  | _ => cases c <;> exact h3.elim
/-! ### a[k] -/
theorem atI_rv {K : PySem.W.Frag} {N : Addr → Prop} {ρ : List Addr} {H : Hp} {l : List PV} {xs : List V} {j : Int} {p : PV} (r : RVs K N ρ H l xs) (h : atI l j = some p) : ∃ v, atI xs j = some v ∧ RV K N ρ H p v := by
  unfold atI at h ⊢
  rw [r.len]
  cases e : ixN l.length j with
  | none => rw [e] at h; cases h
  | some n =>
    rw [e] at h
    exact r.get h
theorem m_ixs (ha : MB X W a fa) (hb : ME X W b fb) (hs : PlainIx b) : ME X W (.Subscript a b pos) (eIx fa fb) := by
  obtain ⟨ta, pa, qa⟩ := ha
  obtain ⟨tb, pb, qb⟩ := hb
  refine ⟨_, pe_ix ix_seq pa pb hs, fun B ρ env st σ H Q R h => ?_⟩
  refine qa B ρ env st σ H _ R (ROk.mono (ROk.bind h) fun p ρ1 st1 H1 E1 h1 x rx => ?_)
  refine qb B ρ1 env st1 σ H1 _ E1.rep (ROk.mono (ROk.bind h1) fun c ρ2 st2 H2 E2 h2 y ry => ?_)
  cases c with
  | int j =>
    have ey := rv_int ry
    subst ey
    obtain ⟨z, e, hz⟩ := ROk.of E2.rep h2
    have rx2 := (RVl.on E2 E2.fr rx).1
    cases p with
    | tup l =>
      obtain ⟨t, xs, rfl, g1, g2, g3⟩ := rvb_tup rx2
      obtain ⟨v, e1, r1⟩ := atI_rv g3 e
      exact .inr (.inl ⟨t, xs, j, v, rfl, rfl, g1.sq, e1, hz H2 Ext.refl v r1⟩)
    | lst l =>
      obtain ⟨t, xs, rfl, g1, g2, g3⟩ := rvb_lst rx2
      obtain ⟨v, e1, r1⟩ := atI_rv g3 e
      exact .inl ⟨t, xs, j, v, rfl, rfl, SqL.of g1, e1, hz H2 Ext.refl v r1⟩
    | scr l =>
      obtain ⟨t, rfl, g1⟩ := rvb_scr rx2
      have e : (atI l j).map PV.int = some z := e
      cases e1 : atI l j with
      | none => rw [e1] at e; cases e
      | some m =>
        rw [e1] at e
        cases e
        have e2 : atI (l.map V.int) j = some (.int m) := by
          unfold atI at e1 ⊢
          rw [List.length_map]
          cases e3 : ixN l.length j with
          | none => rw [e3] at e1; cases e1
          | some n =>
            rw [e3] at e1
            have e1 : l[n]? = some m := e1
            show (l.map V.int)[n]? = some (.int m)
            rw [List.getElem?_map, e1]
            rfl
        exact .inl ⟨t, _, j, .int m, rfl, rfl, g1.sq, e2, hz H2 Ext.refl _ mk_int⟩
    | gl n =>
      obtain ⟨t, rfl, g1⟩ := rv_gl (show RV X.K (Excl B ρ2 env σ) ρ2 H2 (PV.gl n) x from rx2)
      have e : (match st2[n]? with
        | some (.lst l) => atI l j
        | _ => none) = some z := e
      cases e1 : st2[n]? with
      | none => rw [e1] at e; cases e
      | some cl =>
        rw [e1] at e
        cases cl with
        | dead => cases e
        | dk _ => cases e
        | dt _ => cases e
        | tbl _ _ => cases e
        | ins _ _ _ => cases e
        | lst l =>
          obtain ⟨xs, c1, c2, c3⟩ := E2.rep.cell n _ t e1 g1
          obtain ⟨v, e3, r1⟩ := atI_rv c3 e
          exact .inl ⟨t, xs, j, v, rfl, rfl, SqL.of c1, e3, hz H2 Ext.refl v r1⟩
    | non => cases e
    | ins _ _ _ => cases e
    | cls _ => cases e
    | tud _ => cases e
    | exn _ _ _ _ _ => cases e
    | bl _ => cases e
    | int _ => cases e
    | str _ => cases e
  | _ => exact h2.elim
end
/-! ### defs -/
/-- a def's promise: it computes F -/
def spF (K : PySem.W.Frag) (n : Nat) (F : Fn) : Sp := fun vs H Q E => ∃ B ρ st ps, Rep K B ρ [] st [] H ∧ RVs K (Excl B ρ [] []) ρ H ps vs ∧ ps.length = n ∧
  ROk K (fun cls d _ H' => E cls d H') B ρ [] [] H (F ps st) fun p ρ' st' H' => ∀ u, RV K (Excl B ρ' [] []) ρ' H' p u → Q u H'
structure FnG (Zg : Prop) (P : Program) (w : World) (K : PySem.W.Frag) (mg : Str → Option Value) (base : Heap) (k : Nat) (f : Addr) (fd : FuncData) (ps : List Str) (sp : Sp) : Prop where
  len : ∀ vs H Q E, sp vs H Q E → vs.length = ps.length
  run : ∀ (A : Around) (outer : List PySem.Env) (s : Shared) (H : Hp) (args : Args) (us : List Value) (vs : List V) (Q : VK) (E : XK), Room k A → (Zg → A.guards = some []) → Env0 P w K mg base A outer s H →
    BindsTo s fd args (ps.zip us) → Vals vs us → sp vs H Q E → codeAny (model P w) A (.call (.ref f) args) (CR (L2.CX P w) outer P w H s Q E) s
/-- a def by its name, what it computes -/
def Cal (Zg : Prop) (P : Program) (w : World) (K : PySem.W.Frag) (mg : Str → Option Value) (base : Heap) (k : Nat) (x : Str) (ps : List Str) (F : Fn) : Prop :=
  ∃ f fd, FnG Zg P w K mg base k f fd ps (spF K ps.length F) ∧ mg x = some (.ref f) ∧ PySem.W.keepIn K (.ref f) = true ∧ Binds K fd ps []
section
variable {P : Program} {w : World} {K : PySem.W.Frag} {mg : Str → Option Value} {base : Heap} {B : Addr → Prop} {ρ ρ' : List Addr} {env : Env} {st st' : Sto} {σ : L2.St} {H H' : Hp}
theorem FnG.mono {j k : Nat} {f : Addr} {fd : FuncData} {ps : List Str} {sp : Sp} (F : FnG Zg P w K mg base j f fd ps sp) (h : j ≤ k) : FnG Zg P w K mg base k f fd ps sp :=
  ⟨F.len, fun A outer s H args us vs Q E hr hg => F.run A outer s H args us vs Q E (hr.mono h) hg⟩
theorem Cal.mono {j k : Nat} {x : Str} {ps : List Str} {F : Fn} (c : Cal Zg P w K mg base j x ps F) (h : j ≤ k) : Cal Zg P w K mg base k x ps F := by
  obtain ⟨f, fd, c1, c2⟩ := c
  exact ⟨f, fd, c1.mono h, c2⟩
/-- what a callee must leave -/
def Outer (B : Addr → Prop) (env : Env) (σ : L2.St) (a : Addr) : Prop := B a ∨ Owned env σ a
theorem no_own {a : Addr} : ¬ Owned [] ([] : L2.St) a := fun ⟨j, m, e, _⟩ => by simp at e
theorem excl_outer : Excl (Outer B env σ) ρ [] [] = Excl B ρ env σ := by
  funext a
  refine propext ⟨fun h => ?_, fun h => ?_⟩
  · rcases h with (h | h) | h | h
    · exact .inl h
    · exact .inr (.inr h)
    · exact .inr (.inl h)
    · exact (no_own h).elim
  · rcases h with h | h | h
    · exact .inl (.inl h)
    · exact .inr (.inl h)
    · exact .inl (.inr h)
theorem Rep.call (R : Rep K B ρ env st σ H) : Rep K (Outer B env σ) ρ [] st [] H := by
  refine ⟨rfl, R.lenC, R.nd, fun n c a h1 h2 => ?_, R.rT, fun a h z => ?_, fun a h => ?_, fun i e h => by simp at h, fun a h => (no_own h).elim, fun i j l l' a h => by simp at h⟩
  · rw [excl_outer]
    exact R.cell n c a h1 h2
  · rcases z with z | z
    · exact R.rB a h z
    · exact (R.oR a z).1 h
  · rcases h with h | h
    · exact R.bN a h
    · obtain ⟨xs, e⟩ := R.oT h
      exact .of e fun _ z => by cases z
theorem EPost.called (R : Rep K B ρ env st σ H) (E : EPost K (Outer B env σ) ρ [] [] H ρ' st' H') : EPost K B ρ env σ H ρ' st' H' :=
  ⟨Rep.back R E.rep E.pre E.kp E.fr (fun _ _ => rfl) (fun _ _ e _ => e) (fun a n => by rw [excl_outer]; exact n) fun a h z => E.rep.rB a h (.inl z), E.pre, E.kp, E.tr, E.fr⟩
end
section
variable {X : Cx} {W : WX} {k : Nat} {x : Str} {ps : List Str} {F : Fn} {p pos : Pos} {e : Expr} {es : List Expr} {g : EF (List PV)}
theorem ExR.imp {K : PySem.W.Frag} {N N' : Addr → Prop} {ρ : List Addr} {H : Hp} {y : Ex} {cls : Value} {d : Option Addr} (h : ExR K N ρ H y cls d) (e : N = N') : ExR K N' ρ H y cls d := by
  rw [← e]
  exact h
/-- the callee runs -/
theorem runG {pins : List (Addr × Obj)} {σ : L2.St} {H : Hp} {s : Shared} {Q : VK} {us : List Value} {vs : List V} {f : Addr} {fd : FuncData} {sp : Sp} (G : FnG Zg X.prog X.w X.K X.mg X.base k f fd ps sp) (hr : Room k X.A) (hgd : Zg → X.A.guards = some []) (hb : Binds X.K fd ps []) (tk : Takes X W)
    (I : Inv X pins σ H s) (r : Vals vs us) (h : sp vs H Q fun cls d H' => W cls d σ H') : wpAny (model X.prog X.w) X.A (call (.ref f) us) (EP X pins σ Q) X.xe s := by
  have hl : (us ++ []).length = ps.length := by rw [List.append_nil, ← r.length]; exact G.len _ _ _ _ h
  have hb' := hb s us I.kIn hl
  rw [List.append_nil] at hb'
  refine wpAny_call (codeAny_mono (G.run X.A X.stack s H ⟨us, []⟩ us vs Q _ hr hgd I.env0 hb' r h) fun r s' hq => ?_)
  cases r with
  | error e => exact tk e s' (XE.of_call I (fun _ _ _ h => h) hq)
  | ok fl =>
    cases fl with
    | ret u => exact I.after hq
    | next => exact False.elim hq
    | brk => exact False.elim hq
    | cont => exact False.elim hq
theorem spF_of {K : PySem.W.Frag} {B : Addr → Prop} {ρ : List Addr} {env : Env} {st : Sto} {σ : L2.St} {H : Hp} {n : Nat} {Q : VK} {vl : List PV} {vs : List V} (R : Rep K B ρ env st σ H) (r : RVs K (Excl B ρ env σ) ρ H vl vs) (hn : vl.length = n)
    (h : ROk K W B ρ env σ H (F vl st) fun p ρ' st' H' => ∀ u, RV K (Excl B ρ' env σ) ρ' H' p u → Q u H') : spF K n F vs H Q fun cls d H' => W cls d σ H' := by
  refine ⟨Outer B env σ, ρ, st, vl, R.call, by rw [excl_outer]; exact r, hn, ?_⟩
  cases hF : F vl st with
  | ok v st' =>
    rw [hF] at h
    exact fun ρ' H' E u ru => h ρ' H' (.called R E) u (by rw [excl_outer] at ru; exact ru)
  | exc y st' =>
    rw [hF] at h
    exact fun ρ' H' cls d E hx => h ρ' H' cls d (.called R E) (hx.imp excl_outer)
  | stuck => rw [hF] at h; exact h.elim
theorem m_call (c : Cal Zg X.prog X.w X.K X.mg X.base k x ps F) (hr : Room k X.A) (hgd : Zg → X.A.guards = some []) (tk : Takes X W) (hg : Gl X x) (ha : MA X W (e :: es) g) (hn : (e :: es).length = ps.length := by rfl) (hlen : ∀ en st l st', g en st = .ok l st' → l.length = (e :: es).length)
    (hdb : (x == ("__debug__" : Str)) = false := by decide) (he : starEach (e :: es) X.env = (false, eval e X.env) :: starEach es X.env := by rfl) (hpl : (backTo pos (starEach es X.env)).any (·.1) = false := by rfl) : ME X W (.Call (.Name x p) (e :: es) [] pos) (eCall F g) := by
  obtain ⟨f, fd, G, gm, kp, hb⟩ := c
  obtain ⟨t, pa, q⟩ := ha
  refine ⟨fun σ H Q => t σ H fun vs H1 => spF X.K ps.length F vs H1 Q fun cls d H' => W cls d σ H', ⟨fun pins s σ H Q I h => ?_⟩, fun B ρ env st σ H Q R h => ?_⟩
  · refine wpAny_Call_Name_kw (ld_glob I hg gm ?_ hdb)
    refine PySem.W.callWith_K (h₀ := X.base) I.ok.mod.kin kp (thn (pa.run pos pins s σ H _ I h) fun us s1 ⟨vs, H1, I1, r, q⟩ => ⟨I1.kIn, ?_⟩) he hpl
    exact runG G hr hgd hb tk I1 r q
  · refine q B ρ env st σ H _ R ?_
    have h := ROk.bind h
    cases hg : g env st with
    | ok l st' =>
      rw [hg] at h
      exact fun ρ1 H1 E1 us rus => spF_of E1.rep rus ((hlen _ _ _ _ hg).trans hn) (h ρ1 H1 E1)
    | exc y st' => rw [hg] at h; exact h
    | stuck => rw [hg] at h; exact h
end
end PL
/-! PLh: a def by its body; the law at the end. -/
namespace PL
variable {Zg : Prop}
open PySem PySem.Spec L2
section
variable {P : Program} {w : World} {K : PySem.W.Frag} {mg : Str → Option Value} {base : Heap} {B : Addr → Prop} {ρ ρ' : List Addr} {env env' : Env} {st st' : Sto} {σ σ' : L2.St} {H H' : Hp}
theorem excl_drop {a : Addr} (h : Excl B ρ [] ([] : L2.St) a) : Excl B ρ env σ a := by
  rcases h with h | h | h
  · exact .inl h
  · exact .inr (.inl h)
  · exact (no_own h).elim
theorem Rep.drop (R : Rep K B ρ env st σ H) : Rep K B ρ [] st [] H := by
  refine ⟨rfl, R.lenC, R.nd, fun n c a h1 h2 => ?_, R.rT, R.rB, R.bN, fun i e h => by simp at h, fun a h => (no_own h).elim, fun i j l l' a h => by simp at h⟩
  have q := R.cell n c a h1 h2
  exact q.carry (fun a _ _ n => excl_drop n) (fun _ _ e _ => e) List.prefix_rfl fun o q1 => q1
theorem Post.drop (P : Post K B ρ env σ H ρ' env' st' σ' H') (no : ∀ a, ¬ Owned env σ a) : EPost K B ρ [] [] H ρ' st' H' :=
  ⟨P.rep.drop, P.pre, fun a o e n => P.kp a o e n (no a), P.tr, P.fr⟩
def env0 (m : Nat) (ps : List PV) : Env := ps.map .val ++ List.replicate (m - ps.length) .non
theorem no_own0 {m : Nat} {ps : List PV} {σ : L2.St} (a : Addr) : ¬ Owned (env0 m ps) σ a := by
  rintro ⟨j, l, h, _⟩
  unfold env0 at h
  by_cases hj : j < ps.length
  · rw [List.getElem?_append_left (by rw [List.length_map]; exact hj), List.getElem?_map] at h
    cases e : ps[j]? with
    | none => rw [e] at h; cases h
    | some p => rw [e] at h; cases h
  · rw [List.getElem?_append_right (by rw [List.length_map]; omega), List.getElem?_replicate] at h
    split at h <;> cases h
theorem Rep.enter {N : List Str} {ps : List PV} {vs : List V} (R : Rep K B ρ [] st [] H) (r : RVs K (Excl B ρ [] []) ρ H ps vs) (hn : ps.length ≤ N.length) : Rep K B ρ (env0 N.length ps) st (L2.start N vs) H := by
  have el := r.len
  have eq : ∀ a, Excl B ρ (env0 N.length ps) (L2.start N vs) a → Excl B ρ [] ([] : L2.St) a := fun a h => by
    rcases h with h | h | h
    · exact .inl h
    · exact .inr (.inl h)
    · exact (no_own0 a h).elim
  refine ⟨?_, R.lenC, R.nd, fun n c a h1 h2 => ?_, R.rT, R.rB, R.bN, fun i e h => ?_, fun a h => (no_own0 a h).elim, fun i j l l' a h1 h2 h3 h4 => (no_own0 a ⟨i, l, h1, h3⟩).elim⟩
  · unfold env0 L2.start
    simp only [List.length_append, List.length_map, List.length_replicate]
    omega
  · have q := R.cell n c a h1 h2
    exact q.carry (fun a _ _ n => eq a n) (fun _ _ e _ => e) List.prefix_rfl fun o q1 => q1
  · unfold env0 at h
    by_cases hj : i < ps.length
    · rw [List.getElem?_append_left (by rw [List.length_map]; exact hj), List.getElem?_map, List.getElem?_eq_getElem hj] at h
      cases h
      obtain ⟨v, h1, h2⟩ := r.get (List.getElem?_eq_getElem hj)
      refine ⟨v, ?_, RV.carry (fun a _ _ n => eq a n) (fun _ _ e _ => e) List.prefix_rfl _ _ h2⟩
      unfold L2.start
      rw [List.getElem?_append_left (by rw [List.length_map, el]; exact hj), List.getElem?_map, h1]
      rfl
    · rw [List.getElem?_append_right (by rw [List.length_map]; omega), List.getElem?_replicate] at h
      split at h
      · cases h; trivial
      · cases h
/-- the ways out of a body are those of its function -/
theorem sok_fn {W : WX} {E : XK} {ps : List PV} {σ0 : L2.St} {body : SF} {m : Nat} {Q : VK} (hE : ∀ cls d σ H, W cls d σ H = E cls d H)
    (h : ROk K (fun cls d _ H' => E cls d H') B ρ [] [] H (mkFn m body ps st) fun p ρ' st' H' => ∀ u, RV K (Excl B ρ' [] []) ρ' H' p u → Q u H') :
    SOk K W B ρ (env0 m ps) σ0 H (body (env0 m ps) st) { nx := fun _ H' => Q .non H', rt := Q } := by
  have h : ROk K (fun cls d _ H' => E cls d H') B ρ [] [] H (match body (env0 m ps) st with
    | .nx _ st => .ok .non st
    | .rt v st => .ok v st
    | .exc x _ st => .exc x st
    | _ => .stuck) fun p ρ' st' H' => ∀ u, RV K (Excl B ρ' [] []) ρ' H' p u → Q u H' := h
  cases hb : body (env0 m ps) st with
  | nx e st' => rw [hb] at h; exact fun ρ' σ' H' P => h ρ' H' (P.drop no_own0) _ mk_non
  | rt v st' => rw [hb] at h; exact fun ρ' e' σ' H' u P ru => h ρ' H' (P.drop no_own0) u ru
  | bk e st' => rw [hb] at h; exact h.elim
  | ct e st' => rw [hb] at h; exact h.elim
  | stuck => rw [hb] at h; exact h.elim
  | exc x e st' =>
    rw [hb] at h
    refine fun ρ' σ' H' cls d P hx => ?_
    rw [hE]
    refine h ρ' H' cls d (P.drop no_own0) ⟨hx.1, hx.2.imp id ?_⟩
    rintro ⟨dd, fvs, e0, e1, e2, en, e3, e4⟩
    exact ⟨dd, fvs, e0, e1, e2, fun z => en (excl_drop z), e3, RVs.carry (fun a _ _ n => excl_drop n) (fun _ _ e _ => e) List.prefix_rfl _ _ e4⟩
abbrev WE (E : XK) : WX := fun cls d _ H' => E cls d H'
/-- THE RULE for a def -/
theorem fnG_of {k : Nat} {f : Addr} {fd : FuncData} {x qual : Str} {params : Arguments} {body : List Stmt} {scope : Scope} {dvs : List V} {kws : List (Str × V)} {N ps : List Str} {g : SF}
    (F : FunD K x qual params body scope dvs kws f fd) (S : FnScope N ps scope) (hN : Nat.ble ps.length N.length = true)
    (hbody : ∀ (cdv : Value) (A : Around) (outer : List PySem.Env) (s : Shared) (H : Hp) (E : XK), Room k (A.deeper (PyProof.Rows.envOfC qual scope s.heap.objs.size f cdv)) → (Zg → A.guards = some []) →
      MSs (cxOf (L2.CX P w) P w K mg base N qual scope f cdv A outer s H E) (WE E) body g) : FnG Zg P w K mg base (k + 1) f fd ps (spF K ps.length (mkFn N.length g)) := by
  obtain ⟨oc, od, dV, kV, doc, pm, an, cdv, ct, osl, rfl, lk, hcd, _, _⟩ := F.ex
  have len : ∀ vs H Q E, spF K ps.length (mkFn N.length g) vs H Q E → vs.length = ps.length := fun vs H Q E ⟨B, ρ, st, pl, _, r, h, _⟩ => r.len.trans h
  refine ⟨len, ?_⟩
  intro A outer s H args us vs Q E hr hg e0 hb r hsp
  have hlen := len _ _ _ _ hsp
  have inK : K.In s.heap := e0.mod.kin.keeps (fun b o e => (e0.bs b o e).1)
  have noLim : s.heap.NoLimit := e0.mod.nolimit.keeps (fun b o e => (e0.bs b o e).1)
  have kinds : ∀ y ∈ ps.zip us, scope.names.lookup y.1 = some .local ∨ (scope.names.lookup y.1 = some .cell ∧ ((cellsFrom (s.heap.objs.size + 1) scope.names []).lookup y.1).isSome = true) := by
    rintro ⟨n, v⟩ hy
    rcases S.par n (List.of_mem_zip hy).1 with q | q
    · exact Or.inl q
    · exact Or.inr ⟨q, PySem.W.cellsFrom_some _ _ _ (.inl q)⟩
  refine codeAny_call_function hr.depth (inK _ _ lk) rfl S.co S.gen rfl (PySem.W.codeRec_of inK hcd) (hb _ _ _ _ ?_)
  refine wpAny_newFunctionEnv_cells S.kind kinds fun env he s1 xx => ?_
  subst he
  refine ⟨noLim.keeps xx.toInCall.keep, codeAny_func ?_⟩
  obtain ⟨t, ht, hq⟩ := hbody cdv A outer s H E (hr.deeper _) hg
  obtain ⟨B, ρ, st, pl, R, rp, hpl, hF⟩ := hsp
  have I := inv_start (CX := L2.CX P w) (E := E) S hr.hd e0 hlen r xx
  have RE0 : Rep K B ρ (env0 N.length pl) st (L2.start N vs) H := R.enter rp (by rw [hpl]; exact Nat.le_of_ble_eq_true hN)
  refine wpAny_mono (ht.run [] s1 (L2.start N vs) H { nx := fun _ H' => Q .non H', rt := Q } I (hq B ρ _ st _ H _ RE0 (sok_fn (fun _ _ _ _ => rfl) hF))) (fun fl s' hs => ?_) (fun e s' hs => hs)
  have out : ∀ {σ2 : L2.St} {H2 : Hp} {v : V} {u : Value}, Inv (cxOf (L2.CX P w) P w K mg base N qual scope f cdv A outer s H E) [] σ2 H2 s' → RelV v u → Q v H2 → CE outer P w H s Q u s' :=
    fun {σ2 H2 v u} J rv q => ⟨v, H2, J.os, J.bare, J.base, J.hok, rv, q⟩
  cases fl with
  | brk => exact hs.elim fun _ ⟨_, _, q⟩ => False.elim q
  | cont => exact hs.elim fun _ ⟨_, _, q⟩ => False.elim q
  | next =>
    obtain ⟨σ2, H2, J, q⟩ := hs
    exact out (v := V.non) (u := Value.none) J rfl q
  | ret u =>
    obtain ⟨v, σ2, H2, J, rv, q⟩ := hs
    exact out J rv q
end
/-! ### the law -/
section
variable {P : Program} {w : World} {K : PySem.W.Frag} {mg mb : Str → Option Value} {k : Nat} {fa a : Addr} {fd : FuncData} {x : Str} {sp : Sp} {s₁ : Shared} {vs : List Value} {ns : List Int}
/-- from an abstract heap in which at most the script is tracked -/
theorem law_from {H : Hp} (KX : K.In s₁.heap) (hns : s₁.heap.Ns mainGlobals mg) (hb : s₁.heap.Ns builtinsNs mb) (hbb : ∀ x : Str, x ≠ "__name__" → mb x = bootBuiltins x) (hlim : s₁.heap.NoLimit) (hg : s₁.gens = #[])
    (ha : s₁.heap.get? a = some { cls := .type "list", data := .seq vs.toArray }) (hr : Room k callerA) (hbind : ∀ (s : Shared) (u : Value), BindsTo s fd ⟨[u], []⟩ [(x, u)])
    (F : ∀ base : Heap, K.In base → base.Ns mainGlobals mg → FnG Zg P w K mg base k fa fd [x] sp) (hO : Only H) (hok : HOk P w H s₁.heap) (hA : ∀ b, H b ≠ none → b = a) (hK : H a ≠ none → K.lookup a = none)
    (hsp : sp [.ref a] H (fun v _ => v = .bl true) fun _ _ _ => False) :
    codeAny (model P w) callerA (.call (.ref fa) ⟨[.ref a], []⟩) (fun r s' => r = .ok (.ret (.bool true)) ∧ PySem.OldK s₁.heap s'.heap ∧ s'.os = s₁.os ∧ PyProof.Rows.AllBare s'.gens) s₁ := by
  have there : ∀ {b : Addr}, H b ≠ none → s₁.heap.get? b = some { cls := .type "list", data := .seq vs.toArray } := fun {b} h => by rw [hA b h]; exact ha
  have hidden : ∀ {b : Addr} {o : Obj}, s₁.heap.get? b = some o → H b = none → (hidT s₁.heap H).get? b = some o := fun e n => hidT_get e n
  have plain : ∀ {b : Addr} {o : Obj} {es : Array DictEntry} {ep : Nat}, s₁.heap.get? b = some o → o.data = .dict es ep → H b = none := fun {b o es ep} e d => by
    refine Classical.byContradiction fun h => ?_
    rw [there h] at e
    cases e
    cases d
  have names : ∀ {b : Addr} {m : Str → Option Value}, s₁.heap.Ns b m → (hidT s₁.heap H).Ns b m := fun {b m} h => by
    obtain ⟨o, es, ep, e, d, r⟩ := h
    exact ⟨o, es, ep, hidden e (plain e d), d, r⟩
  have kin : K.In (hidT s₁.heap H) := fun b o e => hidden (KX b o e) (by
    refine Classical.byContradiction fun h => ?_
    have e2 := hA b h
    subst e2
    rw [hK h] at e
    cases e)
  have hM : Mod K mg (hidT s₁.heap H) := ⟨kin, names hns, ⟨mb, names hb, hbb⟩, let ⟨mc, h1, h2⟩ := hlim; ⟨mc, names h1, h2⟩⟩
  have e0 : Env0 P w K mg (hidT s₁.heap H) callerA [] s₁ H := ⟨rfl, hM, fun b o e => of_hidT e, Nat.le_of_eq (hidT_size _ _), trivial, fun b hb => absurd (show b ∈ ([] : List Addr) from hb) (by simp), hok, .of_eq hg⟩
  refine codeAny_mono ((F _ kin (names hns)).run callerA [] s₁ H ⟨[.ref a], []⟩ [.ref a] [.ref a] _ _ hr (fun _ => rfl) e0 (hbind s₁ (.ref a)) (.cons rfl .nil) hsp) fun r s' h => ?_
  cases r with
  | error e =>
    obtain ⟨_, _, _, _, _, _, _, _, _, _, _, _, z⟩ := h
    exact z.elim
  | ok fl =>
    cases fl with
    | next => exact False.elim h
    | brk => exact False.elim h
    | cont => exact False.elim h
    | ret u =>
      obtain ⟨v, H', os, bare, un, hok', r', q⟩ := h
      have q' : v = .bl true := q
      subst q'
      obtain rfl : u = Value.bool true := r'
      refine ⟨rfl, PySem.OldK.of_keep fun b o e => ?_, os, bare⟩
      rcases hO b with z | ⟨ob, xs, z⟩
      · exact un.keep b o e z (by intro y; exact absurd (show b ∈ ([] : List Addr) from y) (by simp)) (by simp)
      · obtain ⟨e1, _⟩ := hok b _ z
        obtain ⟨e2, _⟩ := hok' b _ (un.frzs b ob _ z)
        rw [e] at e1
        cases e1
        exact e2
theorem law_G (KX : K.In s₁.heap) (hns : s₁.heap.Ns mainGlobals mg) (hb : s₁.heap.Ns builtinsNs mb) (hbb : ∀ x : Str, x ≠ "__name__" → mb x = bootBuiltins x) (hlim : s₁.heap.NoLimit) (hg : s₁.gens = #[])
    (ha : s₁.heap.get? a = some { cls := .type "list", data := .seq vs.toArray }) (hi : PyProof.Rows.IntsAre vs ns) (hl : ns.length ≤ LINE) (hr : Room k callerA) (hbind : ∀ (s : Shared) (u : Value), BindsTo s fd ⟨[u], []⟩ [(x, u)])
    (F : ∀ base : Heap, K.In base → base.Ns mainGlobals mg → FnG Zg P w K mg base k fa fd [x] sp)
    (hsp : ∀ H : Hp, Only H → ScrAt K (fun _ => False) H a ns → sp [.ref a] H (fun v _ => v = .bl true) fun _ _ _ => False) :
    codeAny (model P w) callerA (.call (.ref fa) ⟨[.ref a], []⟩) (fun r s' => r = .ok (.ret (.bool true)) ∧ PySem.OldK s₁.heap s'.heap ∧ s'.os = s₁.os ∧ PyProof.Rows.AllBare s'.gens) s₁ := by
  have rv := vals_ints hi
  have lenV := hi.length
  have hl' : ns.length ≤ sizeLine := by rw [← LINE_eq]; exact hl
  cases hk : K.lookup a with
  | some o =>
    have e := KX a o hk
    rw [ha] at e
    cases e
    have hO : Only (fun _ => none) := fun _ => .inl rfl
    exact law_from KX hns hb hbb hlim hg ha hr hbind F hO (fun b u z => by cases (show (none : Option HO) = some u from z)) (fun b z => absurd rfl z) (fun z => absurd rfl z)
      (hsp _ hO ⟨hl, .inr ⟨_, vs.toArray, _, hk, rfl, rfl, rfl, by rw [List.size_toArray, lenV]; exact hl', by simpa using rv⟩⟩)
  | none =>
    let H : Hp := fun b => if b = a then some (.frz { cls := .type "list", data := .seq vs.toArray } (.lst (ns.map V.int))) else none
    have Ha : H a = some (.frz { cls := .type "list", data := .seq vs.toArray } (.lst (ns.map V.int))) := if_pos rfl
    have Hn : ∀ {b}, b ≠ a → H b = none := fun h => if_neg h
    have hO : Only H := fun b => by
      by_cases hb : b = a
      · exact .inr ⟨_, _, by rw [hb]; exact Ha⟩
      · exact .inl (Hn hb)
    refine law_from KX hns hb hbb hlim hg ha hr hbind F hO (fun b u z => ?_) (fun b z => ?_) (fun _ => hk) (hsp H hO ⟨hl, .inl ⟨_, Ha, fun z => z⟩⟩)
    · by_cases hb : b = a
      · subst hb
        rw [Ha] at z
        cases z
        exact ⟨ha, by rw [List.length_map]; exact hl', vs, _, rv, ha⟩
      · rw [Hn hb] at z
        cases z
    · refine Classical.byContradiction fun hb => z (Hn hb)
end
/-- the end of a law's proof: what its function says at every script -/
theorem walk_G {l : PySem.W.OpenLaw} {n k : Nat} {q : Program} {loose : List Str} {XP : (Str → Option Value) → Heap → Prop} {YP : World → Heap → Prop} {d : PySem.DefRec} {x : Str} {F : Fn}
    (hn : l.most = some n) (hn2 : n ≤ LINE) (hdf : d.params.defaults = []) (hr : Room k callerA)
    (G : ∀ (w : World) (mg : Str → Option Value) (fa : Addr) (h : Heap), YP w h → h.Ns mainGlobals mg → mg d.name = some (.ref fa) →
      ∃ (K : PySem.W.Frag) (fd : FuncData), K.In h ∧ (∀ (s : Shared) (u : Value), BindsTo s fd ⟨[u], []⟩ [(x, u)]) ∧ ∀ base : Heap, K.In base → base.Ns mainGlobals mg → FnG Zg l.prog w K mg base k fa fd [x] (spF K 1 F))
    (law : ∀ ns : List Int, ns.length ≤ n → ∃ st, F [.scr ns] [] = .ok (.bl true) st) :
    PySem.W.WalkO q loose XP YP l.row.toRowW d [] (fun f vs => PySem.call f vs) := by
  refine Att.attach_call hn hdf fun w s₀ s₁ mg mb fa o pm cd doc a vs ns T Y ho hd hcd hmg hobj hints hlen hg => ?_
  obtain ⟨K, fd, KX, hb, hF⟩ := G w mg fa _ Y T.T.g hmg
  refine law_G KX T.T.g T.T.b T.T.builtins T.T.nolimit hg hobj hints (Nat.le_trans hlen hn2) hr hb hF fun H hO hS => ?_
  obtain ⟨st, e⟩ := law ns hlen
  refine ⟨fun _ => False, [], [], [.scr ns], ?_, .cons ?_ .nil, rfl, ?_⟩
  · exact ⟨rfl, rfl, List.nodup_nil, fun n c a h => by simp at h, fun a h => by simp at h, fun a h => by simp at h, fun a h => h.elim, fun i e h => by simp at h, fun a h => (no_own h).elim, fun i j l l' a h => by simp at h⟩
  · unfold RV
    refine ⟨a, rfl, hS.1, hS.2.imp (fun ⟨o, h1, _⟩ => ⟨o, h1, fun z => ?_⟩) id⟩
    rcases z with z | z | z
    · exact z
    · simp at z
    · exact no_own z
  · rw [e]
    exact fun ρ' H' E u ru => rv_bl ru
end PL
/-! PLi: the built-in operations on values. -/
namespace PL
open PySem PySem.Spec L2
/-! ### values as data -/
mutual
def toD : PV → Option PyData
  | .non => some .none
  | .bl b => some (.bool b)
  | .int i => some (.int i)
  | .str x => some (.str x)
  | .tup l => (toDs l).map .tuple
  | .lst l => (toDs l).map .list
  | .scr _ => none
  | .gl _ => none
  | .ins _ _ _ => none
  | .cls _ => none
  | .tud l => (toDs l).map .tuple
  | .exn _ _ _ _ _ => none
def toDs : List PV → Option (List PyData)
  | [] => some []
  | p :: ps => match toD p, toDs ps with
    | some d, some ds => some (d :: ds)
    | _, _ => none
end
section
variable {K : PySem.W.Frag} {N : Addr → Prop} {ρ : List Addr} {H : Hp}
mutual
theorem RV.dp : ∀ (p : PV) (v : V) (d : PyData), RV K N ρ H p v → toD p = some d → Dp K H v d
  | .non, v, d, h, e => by
    have h := rv_non h
    subst h
    unfold toD at e
    cases e
    exact .non
  | .bl b, v, d, h, e => by
    have h := rv_bl h
    subst h
    unfold toD at e
    cases e
    exact .bl b
  | .int i, v, d, h, e => by
    have h := rv_int h
    subst h
    unfold toD at e
    cases e
    exact .int i
  | .str x, v, d, h, e => by
    have h := rv_str h
    subst h
    unfold toD at e
    cases e
    exact .str x
  | .tup l, v, d, h, e => by
    obtain ⟨a, xs, rfl, h1, _, h2⟩ := rv_tup h
    unfold toD at e
    cases e1 : toDs l with
    | none => rw [e1] at e; cases e
    | some ds =>
      rw [e1] at e
      cases e
      exact .tup h1.sq (RVs.dp l xs ds h2 e1)
  | .lst l, v, d, h, e => by
    obtain ⟨a, xs, rfl, _, h1, _, h2⟩ := rv_lst h
    unfold toD at e
    cases e1 : toDs l with
    | none => rw [e1] at e; cases e
    | some ds =>
      rw [e1] at e
      cases e
      exact .lst (SqL.of h1) (RVs.dp l xs ds h2 e1)
  | .scr _, _, _, _, e => by
    unfold toD at e
    cases e
  | .gl _, _, _, _, e => by
    unfold toD at e
    cases e
  | .ins _ _ _, _, _, _, e => by
    unfold toD at e
    cases e
  | .cls _, _, _, _, e => by
    unfold toD at e
    cases e
  | .exn _ _ _ _ _, _, _, _, e => by
    unfold toD at e
    cases e
  | .tud l, v, d, h, e => by
    obtain ⟨a, xs, rfl, h1, _, h2⟩ := rv_tud h
    unfold toD at e
    cases e1 : toDs l with
    | none => rw [e1] at e; cases e
    | some ds =>
      rw [e1] at e
      cases e
      exact .tup h1.sq (RVs.dp l xs ds h2 e1)
theorem RVs.dp : ∀ (l : List PV) (xs : List V) (ds : List PyData), RVs K N ρ H l xs → toDs l = some ds → DpAll K H xs ds
  | [], xs, ds, h, e => by
    rw [h.unnil]
    unfold toDs at e
    cases e
    exact .nil
  | p :: ps, xs, ds, h, e => by
    obtain ⟨v, vs, rfl, h1, h2⟩ := h.uncons
    unfold toDs at e
    cases e1 : toD p with
    | none => rw [e1] at e; cases e
    | some d =>
      cases e2 : toDs ps with
      | none => rw [e1, e2] at e; cases e
      | some ds' =>
        rw [e1, e2] at e
        cases e
        exact .cons (RV.dp p v d h1 e1) (RVs.dp ps vs ds' h2 e2)
end
theorem RVb.dp {p : PV} {v : V} {d : PyData} (h : RVb K N ρ H p v) (e : toD p = some d) : Dp K H v d := by
  cases p with
  | lst l =>
    obtain ⟨a, xs, rfl, h1, _, h2⟩ := rvb_lst h
    unfold toD at e
    cases e1 : toDs l with
    | none => rw [e1] at e; cases e
    | some ds =>
      rw [e1] at e
      cases e
      exact .lst (SqL.of h1) (RVs.dp l xs ds h2 e1)
  | non => exact RV.dp _ v d h e
  | bl _ => exact RV.dp _ v d h e
  | int _ => exact RV.dp _ v d h e
  | str _ => exact RV.dp _ v d h e
  | tup _ => exact RV.dp _ v d h e
  | scr _ => exact RV.dp _ v d h e
  | gl _ => exact RV.dp _ v d h e
  | ins _ _ _ => exact RV.dp _ v d h e
  | cls _ => exact RV.dp _ v d h e
  | tud _ => exact RV.dp _ v d h e
  | exn _ _ _ _ _ => exact RV.dp _ v d h e
end
def intsOf : List PV → Option (List Int)
  | [] => some []
  | .int i :: ps => (intsOf ps).map (i :: ·)
  | _ :: _ => none
def blsOf : List PV → Option (List Bool)
  | [] => some []
  | .bl i :: ps => (blsOf ps).map (i :: ·)
  | _ :: _ => none
theorem intsOf_eq : ∀ {l : List PV} {ns : List Int}, intsOf l = some ns → l = ns.map PV.int
  | [], ns, e => by cases e; rfl
  | .int i :: ps, ns, e => by
    unfold intsOf at e
    cases e1 : intsOf ps with
    | none => rw [e1] at e; cases e
    | some ms =>
      rw [e1] at e
      cases e
      rw [intsOf_eq e1]
      rfl
  | .non :: _, _, e => by cases e
  | .bl _ :: _, _, e => by cases e
  | .str _ :: _, _, e => by cases e
  | .tup _ :: _, _, e => by cases e
  | .lst _ :: _, _, e => by cases e
  | .scr _ :: _, _, e => by cases e
  | .gl _ :: _, _, e => by cases e
  | .ins _ _ _ :: _, _, e => by cases e
  | .cls _ :: _, _, e => by cases e
  | .tud _ :: _, _, e => by cases e
  | .exn _ _ _ _ _ :: _, _, e => by cases e
theorem blsOf_eq : ∀ {l : List PV} {ns : List Bool}, blsOf l = some ns → l = ns.map PV.bl
  | [], ns, e => by cases e; rfl
  | .bl i :: ps, ns, e => by
    unfold blsOf at e
    cases e1 : blsOf ps with
    | none => rw [e1] at e; cases e
    | some ms =>
      rw [e1] at e
      cases e
      rw [blsOf_eq e1]
      rfl
  | .non :: _, _, e => by cases e
  | .int _ :: _, _, e => by cases e
  | .str _ :: _, _, e => by cases e
  | .tup _ :: _, _, e => by cases e
  | .lst _ :: _, _, e => by cases e
  | .scr _ :: _, _, e => by cases e
  | .gl _ :: _, _, e => by cases e
  | .ins _ _ _ :: _, _, e => by cases e
  | .cls _ :: _, _, e => by cases e
  | .tud _ :: _, _, e => by cases e
  | .exn _ _ _ _ _ :: _, _, e => by cases e
/-! ### what the operations give -/
def mulB (i j : Int) : Bool := decide ((-(2 ^ 64) < i ∧ i < 2 ^ 64) ∨ (-(2 ^ 64) < j ∧ j < 2 ^ 64))
def addF : PV → PV → Option PV
  | .int i, .int j => some (.int (i + j))
  | .str x, .str y => if x.length + y.length ≤ LINE then some (.str (x ++ y)) else none
  | .tup l, .tup m => if l.length + m.length ≤ LINE then some (.tup (l ++ m)) else none
  | .lst l, .lst m => if l.length + m.length ≤ LINE then some (.lst (l ++ m)) else none
  | _, _ => none
def subF : PV → PV → Option PV
  | .int i, .int j => some (.int (i - j))
  | _, _ => none
def mulF : PV → PV → Option PV
  | .int i, .int j => if mulB i j = true then some (.int (i * j)) else none
  | _, _ => none
def divF : PV → PV → Option PV
  | .int i, .int j => if 0 < j ∧ j < 1073741824 then some (.int (i / j)) else none
  | _, _ => none
def modF : PV → PV → Option PV
  | .int i, .int j => if 0 < j then some (.int (i % j)) else none
  | _, _ => none
def powF : PV → PV → Option PV
  | .int i, .int j => if 0 ≤ j ∧ j ≤ 1000 ∧ i.natAbs < 18446744073709551616 then some (.int (i ^ j.toNat)) else none
  | _, _ => none
def negF : PV → Option PV
  | .int i => some (.int (-i))
  | _ => none
def cmpF (f : Int → Int → Bool) : PV → PV → Option PV
  | .int i, .int j => some (.bl (f i j))
  | _, _ => none
def ltF : PV → PV → Option PV
  | .int i, .int j => some (.bl (decide (i < j)))
  | .tup l, .tup m => match intsOf l, intsOf m with
    | some ns, some ms => some (.bl (HT.lexLt ns ms))
    | _, _ => none
  | _, _ => none
def eqG (p q : PV) : Option PV := match toD p, toD q with
  | some d, some e => if SeqAt.shaped d = true ∧ SeqAt.shaped e = true then some (.bl (PyData.eqv d e)) else none
  | _, _ => none
def neG (p q : PV) : Option PV := match toD p, toD q with
  | some d, some e => if SeqAt.shaped d = true ∧ SeqAt.shaped e = true then some (.bl (!PyData.eqv d e)) else none
  | _, _ => none
def eqF : PV → PV → Option PV
  | .str x, .str y => some (.bl (decide (x = y)))
  | p, q => eqG p q
def neF : PV → PV → Option PV
  | .str x, .str y => some (.bl (!decide (x = y)))
  | p, q => neG p q
def isNonB : PV → Bool
  | .non => true
  | _ => false
def isntF : PV → PV → Option PV
  | p, .non => some (.bl (!isNonB p))
  | _, _ => none
def flatB : PV → Bool
  | .non => true
  | .bl _ => true
  | .int _ => true
  | .str _ => true
  | _ => false
def eqFl : PV → PV → Bool
  | .non, .non => true
  | .bl a, .bl b => a == b
  | .bl a, .int b => (if a then 1 else 0) == b
  | .int a, .bl b => a == (if b then 1 else 0)
  | .int a, .int b => a == b
  | .str a, .str b => a == b
  | _, _ => false
def inF (p q : PV) : Option PV := match seqOf q with
  | some l => if flatB p = true ∧ l.all flatB = true then some (.bl (l.any fun y => eqFl y p)) else none
  | none => none
section
variable {X : Cx}
/-- an operation of two ints alone -/
theorem opp_int {f : Value → Value → Sem Value} {op : PV → PV → Option PV} {C : Int → Int → Prop} {g : Int → Int → V} (h : OpR X f (rI C g)) (e : ∀ p q z, op p q = some z → ∃ i j, p = .int i ∧ q = .int j ∧ C i j ∧ ∀ K N ρ H, RV K N ρ H z (g i j)) : OpP X f op := by
  refine ⟨_, h, fun N ρ H x y p q z Q hN hx hy ho hQ => ?_⟩
  obtain ⟨i, j, rfl, rfl, c, r⟩ := e p q z ho
  exact ⟨i, j, rvb_int hx, rvb_int hy, c, hQ H _ Ext.refl (r _ _ _ _)⟩
theorem opp_int0 {f : Value → Value → Sem Value} {op : PV → PV → Option PV} {g : Int → Int → V} (h : OpR X f (rI0 g)) (e : ∀ p q z, op p q = some z → ∃ i j, p = .int i ∧ q = .int j ∧ ∀ K N ρ H, RV K N ρ H z (g i j)) : OpP X f op := by
  refine ⟨_, h, fun N ρ H x y p q z Q hN hx hy ho hQ => ?_⟩
  obtain ⟨i, j, rfl, rfl, r⟩ := e p q z ho
  exact ⟨i, j, rvb_int hx, rvb_int hy, hQ H _ Ext.refl (r _ _ _ _)⟩
theorem p_sub : OpP X (binaryOp .Sub) subF := opp_int0 op_sub fun p q z h => by
  unfold subF at h
  split at h
  · cases h; exact ⟨_, _, rfl, rfl, fun _ _ _ _ => mk_int⟩
  · cases h
theorem p_mul : OpP X (binaryOp .Mult) mulF := opp_int op_mul fun p q z h => by
  unfold mulF at h
  split at h
  · split at h
    · rename_i hm
      cases h
      unfold mulB at hm
      have hm2 := of_decide_eq_true hm
      exact ⟨_, _, rfl, rfl, hm2, fun _ _ _ _ => mk_int⟩
    · cases h
  · cases h
theorem p_div : OpP X (binaryOp .FloorDiv) divF := opp_int op_fdiv fun p q z h => by
  unfold divF at h
  split at h
  · split at h
    · rename_i hm
      cases h
      exact ⟨_, _, rfl, rfl, hm, fun _ _ _ _ => mk_int⟩
    · cases h
  · cases h
theorem p_mod : OpP X (binaryOp .Mod) modF := opp_int op_mod fun p q z h => by
  unfold modF at h
  split at h
  · split at h
    · rename_i hm
      cases h
      exact ⟨_, _, rfl, rfl, hm, fun _ _ _ _ => mk_int⟩
    · cases h
  · cases h
theorem p_pow : OpP X (binaryOp .Pow) powF := opp_int op_pow fun p q z h => by
  unfold powF at h
  split at h
  · split at h
    · rename_i hm
      cases h
      exact ⟨_, _, rfl, rfl, ⟨hm.1, by omega, by have := hm.2.2; exact this⟩, fun _ _ _ _ => mk_int⟩
    · cases h
  · cases h
theorem p_neg : UnP X (unaryOp .USub) negF := by
  refine ⟨_, un_neg, fun N ρ H x p z Q hN hx ho hQ => ?_⟩
  unfold negF at ho
  split at ho
  · cases ho
    exact ⟨_, rvb_int hx, hQ H _ Ext.refl mk_int⟩
  · cases ho
theorem p_cmp {f : Value → Value → Sem Value} {g : Int → Int → Bool} (h : OpR X f (rI0 fun i j => .bl (g i j))) : OpP X f (cmpF g) := opp_int0 h fun p q z h => by
  unfold cmpF at h
  split at h
  · cases h; exact ⟨_, _, rfl, rfl, fun _ _ _ _ => mk_bl⟩
  · cases h
theorem p_le : OpP X (compareOp .LtE) (cmpF fun i j => decide (i ≤ j)) := p_cmp op_le
theorem p_gt : OpP X (compareOp .Gt) (cmpF fun i j => decide (j < i)) := p_cmp op_gt
theorem p_lt (hu : X.A.units < cLine) : OpP X (compareOp .Lt) ltF := by
  refine ⟨_, op_lt.or (op_ltT hu), fun N ρ H x y p q z Q hN hx hy ho hQ => ?_⟩
  unfold ltF at ho
  split at ho
  · cases ho
    exact .inl ⟨_, _, rvb_int hx, rvb_int hy, hQ H _ Ext.refl mk_bl⟩
  · split at ho
    · rename_i ns ms e1 e2
      cases ho
      obtain ⟨a, xs, rfl, h1, _, h2⟩ := rvb_tup hx
      obtain ⟨b, ys, rfl, h3, _, h4⟩ := rvb_tup hy
      rw [intsOf_eq e1] at h2
      rw [intsOf_eq e2] at h4
      rw [h2.ints] at h1
      rw [h4.ints] at h3
      exact .inr ⟨a, b, ns, ms, rfl, rfl, h1.sq, h3.sq, hQ H _ Ext.refl mk_bl⟩
    · cases ho
  · cases ho
theorem p_add : OpP X (binaryOp .Add) addF := by
  refine ⟨_, op_add.or (op_add_str.or (op_catA.or op_cat)), fun N ρ H x y p q z Q hN hx hy ho hQ => ?_⟩
  unfold addF at ho
  split at ho
  · cases ho
    exact .inl ⟨_, _, rvb_int hx, rvb_int hy, hQ H _ Ext.refl mk_int⟩
  · split at ho
    · rename_i hl
      cases ho
      exact .inr (.inl ⟨_, _, rvb_str hx, rvb_str hy, by rw [← LINE_eq]; exact hl, hQ H _ Ext.refl mk_str⟩)
    · cases ho
  · split at ho
    · rename_i l m hl
      cases ho
      obtain ⟨a, xs, rfl, h1, h1', h2⟩ := rvb_tup hx
      obtain ⟨b, ys, rfl, h3, h3', h4⟩ := rvb_tup hy
      have ll : (xs ++ ys).length ≤ LINE := by rw [List.length_append, h2.len, h4.len]; exact hl
      refine .inr (.inr (.inl ⟨a, b, xs, ys, rfl, rfl, h1.sq, h3.sq, by rw [← LINE_eq, ← List.length_append]; exact ll, fun e => ?_, fun _ e => ?_, fun _ _ p np => ?_⟩))
      · subst e
        have e2 : l = [] := List.eq_nil_of_length_eq_zero (by rw [← h2.len]; rfl)
        subst e2
        exact hQ H _ Ext.refl (mk_tupK h3 h3' h4)
      · subst e
        have e2 : m = [] := List.eq_nil_of_length_eq_zero (by rw [← h4.len]; rfl)
        subst e2
        exact hQ H _ Ext.refl (mk_tupK h1 h1' (by rw [List.append_nil]; exact h2))
      · exact hQ _ _ (.new np) (mk_tup (fun z => hN p z np) upd_same ll (RVs.ext (.new np) (h2.append h4)))
    · cases ho
  · split at ho
    · rename_i l m hl
      cases ho
      obtain ⟨a, xs, rfl, h1, h1', h2⟩ := rvb_lst hx
      obtain ⟨b, ys, rfl, h3, h3', h4⟩ := rvb_lst hy
      have ll : (xs ++ ys).length ≤ LINE := by rw [List.length_append, h2.len, h4.len]; exact hl
      refine .inr (.inr (.inr ⟨a, b, xs, ys, rfl, rfl, h1, h3, by rw [← LINE_eq, ← List.length_append]; exact ll, fun p np => ?_⟩))
      exact hQ _ _ (.new np) (mk_lst (fun z => hN p z np) upd_same ll (RVs.ext (.new np) (h2.append h4)))
    · cases ho
  · cases ho
theorem dec_str {x y : Str} : decide (V.str x = V.str y) = decide (x = y) := by
  by_cases h : x = y
  · rw [decide_eq_true h, decide_eq_true (by rw [h])]
  · rw [decide_eq_false h, decide_eq_false (fun e => h (by cases e; rfl))]
theorem p_eq (hu : X.A.units + 64 < cLine) : OpP X (compareOp .Eq) eqF := by
  refine ⟨_, op_eq.or (op_eqD hu), fun N ρ H x y p q z Q hN hx hy ho hQ => ?_⟩
  unfold eqF at ho
  split at ho
  · cases ho
    have h1 := rvb_str hx
    have h2 := rvb_str hy
    subst h1 h2
    exact .inl ⟨rfl, by rw [dec_str]; exact hQ H _ Ext.refl mk_bl⟩
  · unfold eqG at ho
    split at ho
    · rename_i d e e1 e2
      split at ho
      · rename_i hs
        cases ho
        exact .inr ⟨d, e, hx.dp e1, hy.dp e2, hs.1, hs.2, hQ H _ Ext.refl mk_bl⟩
      · cases ho
    · cases ho
theorem p_ne (hu : X.A.units + 64 < cLine) : OpP X (compareOp .NotEq) neF := by
  refine ⟨_, op_ne.or (op_neD hu), fun N ρ H x y p q z Q hN hx hy ho hQ => ?_⟩
  unfold neF at ho
  split at ho
  · cases ho
    have h1 := rvb_str hx
    have h2 := rvb_str hy
    subst h1 h2
    exact .inl ⟨rfl, by rw [dec_str]; exact hQ H _ Ext.refl mk_bl⟩
  · unfold neG at ho
    split at ho
    · rename_i d e e1 e2
      split at ho
      · rename_i hs
        cases ho
        exact .inr ⟨d, e, hx.dp e1, hy.dp e2, hs.1, hs.2, hQ H _ Ext.refl mk_bl⟩
      · cases ho
    · cases ho
theorem non_iff {K : PySem.W.Frag} {N : Addr → Prop} {ρ : List Addr} {H : Hp} {p : PV} {x : V} (h : RVb K N ρ H p x) : decide (x = .non) = isNonB p := by
  cases p with
  | non => rw [rvb_non h]; rfl
  | bl b => rw [rvb_bl h]; rfl
  | int b => rw [rvb_int h]; rfl
  | str b => rw [rvb_str h]; rfl
  | tup l => obtain ⟨a, xs, rfl, _⟩ := rvb_tup h; rfl
  | lst l => obtain ⟨a, xs, rfl, _⟩ := rvb_lst h; rfl
  | scr l => obtain ⟨a, rfl, _⟩ := rvb_scr h; rfl
  | gl n => obtain ⟨a, rfl, _⟩ := rv_gl (show RV K N ρ H (.gl n) x from h); rfl
  | ins c ns l => obtain ⟨a, ws, rfl, _⟩ := rvb_ins h; rfl
  | cls c => have e := rvb_cls h; subst e; rfl
  | tud l => obtain ⟨a, xs, rfl, _⟩ := rvb_tud h; rfl
  | exn a d c ns l => rw [(rv_exn (show RV K N ρ H (.exn a d c ns l) _ from h)).1] <;> rfl
theorem p_isnt : OpP X (compareOp .IsNot) isntF := by
  refine ⟨_, op_notN, fun N ρ H x y p q z Q hN hx hy ho hQ => ?_⟩
  cases q with
  | non =>
    cases ho
    exact ⟨rvb_non hy, by rw [non_iff hx]; exact hQ H _ Ext.refl mk_bl⟩
  | _ => cases ho
section
variable {K : PySem.W.Frag} {N : Addr → Prop} {ρ : List Addr} {H : Hp}
theorem flat_rv {p : PV} {x : V} (h : RVb K N ρ H p x) (f : flatB p = true) : flatV x = true := by
  cases p with
  | non => rw [rvb_non h]; rfl
  | bl b => rw [rvb_bl h]; rfl
  | int b => rw [rvb_int h]; rfl
  | str b => rw [rvb_str h]; rfl
  | _ => cases f
theorem eqFl_rv {p q : PV} {x y : V} (h : RVb K N ρ H p x) (k : RVb K N ρ H q y) (f : flatB p = true) (g : flatB q = true) : eqV x y = eqFl p q := by
  cases p with
  | non => rw [rvb_non h]; cases q with
    | non => rw [rvb_non k]; rfl
    | bl b => rw [rvb_bl k]; rfl
    | int b => rw [rvb_int k]; rfl
    | str b => rw [rvb_str k]; rfl
    | _ => cases g
  | bl b => rw [rvb_bl h]; cases q with
    | non => rw [rvb_non k]; rfl
    | bl b => rw [rvb_bl k]; rfl
    | int b => rw [rvb_int k]; rfl
    | str b => rw [rvb_str k]; rfl
    | _ => cases g
  | int b => rw [rvb_int h]; cases q with
    | non => rw [rvb_non k]; rfl
    | bl b => rw [rvb_bl k]; rfl
    | int b => rw [rvb_int k]; rfl
    | str b => rw [rvb_str k]; rfl
    | _ => cases g
  | str b => rw [rvb_str h]; cases q with
    | non => rw [rvb_non k]; rfl
    | bl b => rw [rvb_bl k]; rfl
    | int b => rw [rvb_int k]; rfl
    | str b => rw [rvb_str k]; rfl
    | _ => cases g
  | _ => cases f
theorem flats_rv : ∀ {l : List PV} {xs : List V}, RVs K N ρ H l xs → l.all flatB = true → xs.all flatV = true
  | [], _, h, _ => by rw [h.unnil]; rfl
  | p :: ps, _, h, f => by
    obtain ⟨v, vs, rfl, h1, h2⟩ := h.uncons
    rw [List.all_cons, Bool.and_eq_true] at f ⊢
    exact ⟨flat_rv h1.b f.1, flats_rv h2 f.2⟩
theorem inV_rv {p : PV} {x : V} (k : RVb K N ρ H p x) (g : flatB p = true) : ∀ {l : List PV} {xs : List V}, RVs K N ρ H l xs → l.all flatB = true → inV x xs = l.any fun y => eqFl y p
  | [], _, h, _ => by rw [h.unnil]; rfl
  | q :: ps, _, h, f => by
    obtain ⟨v, vs, rfl, h1, h2⟩ := h.uncons
    rw [List.all_cons, Bool.and_eq_true] at f
    have ih := inV_rv k g h2 f.2
    unfold inV at ih ⊢
    rw [List.any_cons, List.any_cons, ih, eqFl_rv h1.b k f.1 g]
end
theorem p_in : OpP X (compareOp .In) inF := by
  refine ⟨_, op_in_seq, fun N ρ H x y p q z Q hN hx hy ho hQ => ?_⟩
  unfold inF at ho
  cases q with
  | tup l =>
    dsimp only [seqOf] at ho
    split at ho
    · rename_i hf
      cases ho
      obtain ⟨a, xs, rfl, h1, _, h2⟩ := rvb_tup hy
      refine ⟨a, xs, rfl, .inr h1.sq, flat_rv hx hf.1, flats_rv h2 hf.2, ?_⟩
      rw [inV_rv hx hf.1 h2 hf.2]
      exact hQ H _ Ext.refl mk_bl
    · cases ho
  | lst l =>
    dsimp only [seqOf] at ho
    split at ho
    · rename_i hf
      cases ho
      obtain ⟨a, xs, rfl, h1, _, h2⟩ := rvb_lst hy
      refine ⟨a, xs, rfl, .inl (SqL.of h1), flat_rv hx hf.1, flats_rv h2 hf.2, ?_⟩
      rw [inV_rv hx hf.1 h2 hf.2]
      exact hQ H _ Ext.refl mk_bl
    · cases ho
  | _ => cases ho
end
end PL
/-! PLj: built-ins that are called; two names at once; what enumerate and zip walk. -/
namespace PL
open PySem PySem.Spec L2
/-! ### built-ins -/
def lenF : List PV → Option PV
  | [.tup l] => some (.int l.length)
  | [.tud l] => some (.int l.length)
  | [.lst l] => some (.int l.length)
  | [.scr l] => some (.int l.length)
  | [.str x] => if x.length ≤ LINE then some (.int x.length) else none
  | _ => none
def allF : List PV → Option PV
  | [.lst l] => (blsOf l).map fun bs => .bl (bs.all id)
  | _ => none
def anyF : List PV → Option PV
  | [.lst l] => (blsOf l).map fun bs => .bl (bs.any id)
  | _ => none
def sumF : List PV → Option PV
  | [.lst l] => (intsOf l).map fun ns => .int ns.sum
  | _ => none
def minL : List Int → Option Int
  | [] => none
  | i :: l => some (l.foldl (fun a b => if b < a then b else a) i)
def maxL : List Int → Option Int
  | [] => none
  | i :: l => some (l.foldl (fun a b => if a < b then b else a) i)
def minF : List PV → Option PV
  | [.lst l] => (intsOf l).bind fun ns => (minL ns).map .int
  | [.int i, .int j] => some (.int (if j < i then j else i))
  | _ => none
def maxF : List PV → Option PV
  | [.lst l] => (intsOf l).bind fun ns => (maxL ns).map .int
  | [.int i, .int j] => some (.int (if j > i then j else i))
  | _ => none
def tupF : List PV → Option PV
  | [.lst l] => some (.tup l)
  | [.tup l] => some (.tup l)
  | _ => none
def listF : List PV → Option (List PV)
  | [.lst l] => some l
  | [.tup l] => some l
  | _ => none
def reprF : List PV → Option PV
  | [p] => match toD p with
    | some d => if d.showable = true ∧ d.hasDict = false ∧ d.shown.length ≤ LINE ∧ d.depth ≤ 30 then some (.str d.shown) else none
    | none => none
  | _ => none
inductive Ty where
  | int
  | bool
  | tuple
  | list
  | str
def Ty.name : Ty → String
  | .int => "int"
  | .bool => "bool"
  | .tuple => "tuple"
  | .list => "list"
  | .str => "str"
def isiB : Ty → PV → Option Bool
  | .int, .int _ => some true
  | .int, .bl _ => some true
  | .bool, .bl _ => some true
  | .tuple, .tup _ => some true
  | .list, .lst _ => some true
  | .str, .str _ => some true
  | _, .scr _ => none
  | _, .gl _ => none
  | _, .ins _ _ _ => none
  | _, .cls _ => none
  | _, .tud _ => none
  | _, .exn _ _ _ _ _ => none
  | _, _ => some false
def isiF (T : Ty) (p : PV) : Option PV := (isiB T p).map .bl
section
variable {K : PySem.W.Frag} {N : Addr → Prop} {ρ : List Addr} {H : Hp}
def tyN : PV → String
  | .non => "NoneType"
  | .bl _ => "bool"
  | .int _ => "int"
  | .str _ => "str"
  | .tup _ => "tuple"
  | .lst _ => "list"
  | _ => ""
def tyB : PV → Bool
  | .non => true
  | .bl _ => true
  | .int _ => true
  | .str _ => true
  | .tup _ => true
  | .lst _ => true
  | _ => false
theorem ty_of {p : PV} {x : V} (h : RVb K N ρ H p x) (hb : tyB p = true) : TyX K H x (.type (tyN p)) := by
  cases p with
  | non => rw [rvb_non h]; exact .base .non
  | bl b => rw [rvb_bl h]; exact .base (.bl b)
  | int b => rw [rvb_int h]; exact .base (.int b)
  | str b => rw [rvb_str h]; exact .base (.str b)
  | tup l =>
    obtain ⟨a, xs, rfl, e, _⟩ := rvb_tup h
    rcases e with ⟨_, e⟩ | ⟨_, o, _, _, e, c, _⟩
    · exact .base (.tup e)
    · exact .kTuple e c
  | lst l => obtain ⟨a, xs, rfl, e, _⟩ := rvb_lst h; exact .base (.lst e)
  | _ => cases hb
theorem isi_kit {T : Ty} {p : PV} {b : Bool} (h : isiB T p = some b) : kitB (tyN p) T.name = some b ∧ tyB p = true := by
  cases T <;> cases p <;> cases h <;> refine ⟨?_, rfl⟩ <;> dsimp only [tyN, Ty.name] <;> decide +kernel
theorem foldl_min : ∀ (l : List Int) (i : Int), (l.foldl (fun a b => if b < a then b else a) i = i ∨ l.foldl (fun a b => if b < a then b else a) i ∈ l) ∧ l.foldl (fun a b => if b < a then b else a) i ≤ i ∧ ∀ y ∈ l, l.foldl (fun a b => if b < a then b else a) i ≤ y
  | [], i => ⟨.inl rfl, Int.le_refl _, fun y h => by simp at h⟩
  | x :: l, i => by
    obtain ⟨h1, h2, h3⟩ := foldl_min l (if x < i then x else i)
    rw [List.foldl_cons]
    have hx : (if x < i then x else i) ≤ i ∧ (if x < i then x else i) ≤ x ∧ ((if x < i then x else i) = i ∨ (if x < i then x else i) = x) := by
      split
      · exact ⟨by omega, by omega, .inr rfl⟩
      · exact ⟨by omega, by omega, .inl rfl⟩
    refine ⟨?_, by omega, fun y hy => ?_⟩
    · rcases h1 with h1 | h1
      · rcases hx.2.2 with e | e
        · exact .inl (h1.trans e)
        · exact .inr (by rw [h1.trans e]; exact List.mem_cons_self)
      · exact .inr (List.mem_cons_of_mem _ h1)
    · rcases List.mem_cons.mp hy with e | e
      · rw [e]; omega
      · exact h3 y e
theorem foldl_max : ∀ (l : List Int) (i : Int), (l.foldl (fun a b => if a < b then b else a) i = i ∨ l.foldl (fun a b => if a < b then b else a) i ∈ l) ∧ i ≤ l.foldl (fun a b => if a < b then b else a) i ∧ ∀ y ∈ l, y ≤ l.foldl (fun a b => if a < b then b else a) i
  | [], i => ⟨.inl rfl, Int.le_refl _, fun y h => by simp at h⟩
  | x :: l, i => by
    obtain ⟨h1, h2, h3⟩ := foldl_max l (if i < x then x else i)
    rw [List.foldl_cons]
    have hx : i ≤ (if i < x then x else i) ∧ x ≤ (if i < x then x else i) ∧ ((if i < x then x else i) = i ∨ (if i < x then x else i) = x) := by
      split
      · exact ⟨by omega, by omega, .inr rfl⟩
      · exact ⟨by omega, by omega, .inl rfl⟩
    refine ⟨?_, by omega, fun y hy => ?_⟩
    · rcases h1 with h1 | h1
      · rcases hx.2.2 with e | e
        · exact .inl (h1.trans e)
        · exact .inr (by rw [h1.trans e]; exact List.mem_cons_self)
      · exact .inr (List.mem_cons_of_mem _ h1)
    · rcases List.mem_cons.mp hy with e | e
      · rw [e]; omega
      · exact h3 y e
theorem minL_ok {ns : List Int} {m : Int} (h : minL ns = some m) : m ∈ ns ∧ ∀ y ∈ ns, m ≤ y := by
  cases ns with
  | nil => cases h
  | cons i l =>
    have h := Option.some.inj h
    obtain ⟨h1, h2, h3⟩ := foldl_min l i
    rw [h] at h1 h2 h3
    refine ⟨h1.elim (fun e => by rw [e]; exact List.mem_cons_self) (List.mem_cons_of_mem _), fun y hy => ?_⟩
    rcases List.mem_cons.mp hy with e | e
    · rw [e]; exact h2
    · exact h3 y e
theorem maxL_ok {ns : List Int} {m : Int} (h : maxL ns = some m) : m ∈ ns ∧ ∀ y ∈ ns, y ≤ m := by
  cases ns with
  | nil => cases h
  | cons i l =>
    have h := Option.some.inj h
    obtain ⟨h1, h2, h3⟩ := foldl_max l i
    rw [h] at h1 h2 h3
    refine ⟨h1.elim (fun e => by rw [e]; exact List.mem_cons_self) (List.mem_cons_of_mem _), fun y hy => ?_⟩
    rcases List.mem_cons.mp hy with e | e
    · rw [e]; exact h2
    · exact h3 y e
end
section
variable {X : Cx}
theorem c_len : CallP X (.builtin "len") lenF := by
  refine ⟨_, call_len, fun N ρ H xs ps z Q hN hx ho hQ => ?_⟩
  unfold lenF at ho
  split at ho
  · cases ho
    obtain ⟨v, rfl, r, _⟩ := hx.one
    obtain ⟨a, ys, rfl, h1, _, h2⟩ := rvb_tup r
    exact ⟨_, ys.length, rfl, .inr ⟨ys, h1.sq, rfl⟩, by rw [h2.len]; exact hQ H _ Ext.refl mk_int⟩
  · cases ho
    obtain ⟨v, rfl, r, _⟩ := hx.one
    obtain ⟨a, ys, rfl, h1, _, h2⟩ := rvb_tud r
    exact ⟨_, ys.length, rfl, .inr ⟨ys, h1.sq, rfl⟩, by rw [h2.len]; exact hQ H _ Ext.refl mk_int⟩
  · cases ho
    obtain ⟨v, rfl, r, _⟩ := hx.one
    obtain ⟨a, ys, rfl, h1, _, h2⟩ := rvb_lst r
    exact ⟨_, ys.length, rfl, .inl ⟨ys, SqL.of h1, rfl⟩, by rw [h2.len]; exact hQ H _ Ext.refl mk_int⟩
  · cases ho
    obtain ⟨v, rfl, r, _⟩ := hx.one
    obtain ⟨a, rfl, h1⟩ := rvb_scr r
    exact ⟨_, _, rfl, .inl ⟨_, h1.sq, rfl⟩, by rw [List.length_map]; exact hQ H _ Ext.refl mk_int⟩
  · split at ho
    · rename_i hl
      cases ho
      obtain ⟨v, rfl, r, _⟩ := hx.one
      have e := rvb_str r
      subst e
      exact ⟨_, _, rfl, ⟨by rw [← LINE_eq]; exact hl, rfl⟩, hQ H _ Ext.refl mk_int⟩
    · cases ho
  · cases ho
theorem c_all (hc : X.calm = true) : CallP X (.builtin "all") allF := by
  refine ⟨_, cr_all hc, fun N ρ H xs ps z Q hN hx ho hQ => ?_⟩
  unfold allF at ho
  split at ho
  · rename_i l
    cases e : blsOf l with
    | none => rw [e] at ho; cases ho
    | some bs =>
      rw [e] at ho
      cases ho
      obtain ⟨v, rfl, r, _⟩ := hx.one
      obtain ⟨a, ys, rfl, h1, _, h2⟩ := rvb_lst r
      rw [blsOf_eq e] at h2
      rw [h2.bls] at h1
      exact ⟨a, bs, rfl, SqL.of h1, hQ H _ Ext.refl mk_bl⟩
  · cases ho
theorem c_any (hc : X.calm = true) : CallP X (.builtin "any") anyF := by
  refine ⟨_, cr_any hc, fun N ρ H xs ps z Q hN hx ho hQ => ?_⟩
  unfold anyF at ho
  split at ho
  · rename_i l
    cases e : blsOf l with
    | none => rw [e] at ho; cases ho
    | some bs =>
      rw [e] at ho
      cases ho
      obtain ⟨v, rfl, r, _⟩ := hx.one
      obtain ⟨a, ys, rfl, h1, _, h2⟩ := rvb_lst r
      rw [blsOf_eq e] at h2
      rw [h2.bls] at h1
      exact ⟨a, bs, rfl, SqL.of h1, hQ H _ Ext.refl mk_bl⟩
  · cases ho
theorem c_sum (hc : X.calm = true) : CallP X (.builtin "sum") sumF := by
  refine ⟨_, cr_sum hc, fun N ρ H xs ps z Q hN hx ho hQ => ?_⟩
  unfold sumF at ho
  split at ho
  · rename_i l
    cases e : intsOf l with
    | none => rw [e] at ho; cases ho
    | some bs =>
      rw [e] at ho
      cases ho
      obtain ⟨v, rfl, r, _⟩ := hx.one
      obtain ⟨a, ys, rfl, h1, _, h2⟩ := rvb_lst r
      rw [intsOf_eq e] at h2
      rw [h2.ints] at h1
      exact ⟨a, bs, rfl, SqL.of h1, hQ H _ Ext.refl mk_int⟩
  · cases ho
theorem CallR.or {f : Value} {r r' : List V → Hp → VK → Prop} (h : CallR X f r) (h' : CallR X f r') : CallR X f (fun xs H Q => r xs H Q ∨ r' xs H Q) :=
  fun pins s σ H xs us Q I v q => q.elim (h pins s σ H xs us Q I v) (h' pins s σ H xs us Q I v)
theorem c_min (hc : X.calm = true) : CallP X (.builtin "min") minF := by
  refine ⟨_, CallR.or (cr_min hc) (call_min2 hc), fun N ρ H xs ps z Q hN hx ho hQ => ?_⟩
  unfold minF at ho
  split at ho
  · rename_i l
    cases e : intsOf l with
    | none => rw [e] at ho; cases ho
    | some bs =>
      rw [e] at ho
      have ho : (minL bs).map PV.int = some z := ho
      cases em : minL bs with
      | none => rw [em] at ho; cases ho
      | some m =>
        rw [em] at ho
        cases ho
        obtain ⟨v, rfl, r, _⟩ := hx.one
        obtain ⟨a, ys, rfl, h1, _, h2⟩ := rvb_lst r
        rw [intsOf_eq e] at h2
        rw [h2.ints] at h1
        obtain ⟨m1, m2⟩ := minL_ok em
        refine .inl ⟨a, bs, rfl, SqL.of h1, List.length_pos_of_mem m1, fun k k1 k2 => ?_⟩
        have ek : k = m := Int.le_antisymm (k2 m m1) (m2 k k1)
        rw [ek]
        exact hQ H _ Ext.refl mk_int
  · cases ho
    obtain ⟨v, w, rfl, r1, r2⟩ := hx.two
    exact .inr ⟨_, _, by rw [rvb_int r1.1, rvb_int r2.1], hQ H _ Ext.refl mk_int⟩
  · cases ho
theorem c_max (hc : X.calm = true) : CallP X (.builtin "max") maxF := by
  refine ⟨_, CallR.or (cr_max hc) (call_max2 hc), fun N ρ H xs ps z Q hN hx ho hQ => ?_⟩
  unfold maxF at ho
  split at ho
  · rename_i l
    cases e : intsOf l with
    | none => rw [e] at ho; cases ho
    | some bs =>
      rw [e] at ho
      have ho : (maxL bs).map PV.int = some z := ho
      cases em : maxL bs with
      | none => rw [em] at ho; cases ho
      | some m =>
        rw [em] at ho
        cases ho
        obtain ⟨v, rfl, r, _⟩ := hx.one
        obtain ⟨a, ys, rfl, h1, _, h2⟩ := rvb_lst r
        rw [intsOf_eq e] at h2
        rw [h2.ints] at h1
        obtain ⟨m1, m2⟩ := maxL_ok em
        refine .inl ⟨a, bs, rfl, SqL.of h1, List.length_pos_of_mem m1, fun k k1 k2 => ?_⟩
        have ek : k = m := Int.le_antisymm (m2 k k1) (k2 m m1)
        rw [ek]
        exact hQ H _ Ext.refl mk_int
  · cases ho
    obtain ⟨v, w, rfl, r1, r2⟩ := hx.two
    exact .inr ⟨_, _, by rw [rvb_int r1.1, rvb_int r2.1], hQ H _ Ext.refl mk_int⟩
  · cases ho
theorem c_tuple : CallP X (.type "tuple") tupF := by
  refine ⟨_, call_tuple_of, fun N ρ H xs ps z Q hN hx ho hQ => ?_⟩
  unfold tupF at ho
  split at ho
  · cases ho
    obtain ⟨v, rfl, r, _⟩ := hx.one
    obtain ⟨a, ys, rfl, h1, h1', h2⟩ := rvb_lst r
    exact ⟨a, ys, rfl, .inl ⟨SqL.of h1, fun l nl => hQ _ _ (.new nl) (mk_tup (fun z => hN l z nl) upd_same h1' (RVs.ext (.new nl) h2))⟩⟩
  · cases ho
    obtain ⟨v, rfl, r, _⟩ := hx.one
    obtain ⟨a, ys, rfl, h1, h1', h2⟩ := rvb_tup r
    exact ⟨a, ys, rfl, .inr ⟨h1.sq, hQ H _ Ext.refl (mk_tupK h1 h1' h2)⟩⟩
  · cases ho
theorem c_list : CallL X (.type "list") listF := by
  refine ⟨_, call_list_of, fun N ρ H xs ps z Q hN hx ho hQ => ?_⟩
  unfold listF at ho
  split at ho
  · cases ho
    obtain ⟨v, rfl, r, _⟩ := hx.one
    obtain ⟨a, ys, rfl, h1, h1', h2⟩ := rvb_lst r
    exact ⟨a, ys, rfl, .inl (SqL.of h1), fun l nl => hQ H l ys _ Ext.refl nl rfl h1' h2⟩
  · cases ho
    obtain ⟨v, rfl, r, _⟩ := hx.one
    obtain ⟨a, ys, rfl, h1, h1', h2⟩ := rvb_tup r
    exact ⟨a, ys, rfl, .inr h1.sq, fun l nl => hQ H l ys _ Ext.refl nl rfl h1' h2⟩
  · cases ho
/-- repr of data -/
theorem c_repr (hg : X.A.guards = some []) (hu : X.A.units + 64 < cLine) : CallP X (.builtin "repr") reprF := by
  refine ⟨fun xs H Q => ∃ x d, xs = [x] ∧ Dp X.K H x d ∧ d.showable = true ∧ d.hasDict = false ∧ d.shown.length ≤ LINE ∧ d.depth ≤ 30 ∧ Q (.str d.shown) H, fun pins s σ H xs us Q I r h => ?_, fun N ρ H xs ps z Q hN hx ho hQ => ?_⟩
  · obtain ⟨x, d, rfl, hd, h1, h2, h3, h4, q⟩ := h
    obtain ⟨u, rfl, ru⟩ := vals1 r
    have h3' : d.shown.length ≤ sizeLine := by rw [← LINE_eq]; exact h3
    obtain ⟨as, rd⟩ := Dp.reads I d x u hd ru
    have fin : ∀ (h' : Heap) (t : Tok) (tk : Nat), (∀ b o, s.heap.get? b = some o → h'.get? b = some o) → EP X pins σ Q (.str d.shown t) { s with heap := h', toks := tk } := fun h' t tk kk => ⟨.str d.shown, H, I.kept (t' := tk) kk, ⟨t, rfl⟩, q⟩
    cases rd with
    | none => exact P.repr_of_none (by have := fin s.heap s.toks (s.toks + 1) (fun _ _ e => e); simpa [PyData.shown] using this)
    | bool b => exact P.repr_of_bool (by have := fin s.heap s.toks (s.toks + 1) (fun _ _ e => e); simpa [PyData.shown] using this)
    | int i t => exact P.repr_of_int (by simpa [PyData.showable] using h1) (by have := fin s.heap s.toks (s.toks + 1) (fun _ _ e => e); simpa [PyData.shown] using this)
    | str y t => exact P.repr_of_str (by have := fin s.heap s.toks (s.toks + 1) (fun _ _ e => e); simpa [PyData.shown] using this) (by simpa [PyData.shown] using h3')
    | list a1 a2 a3 a4 => exact repr_of_reads' (.list a1 a2 a3 a4) h1 (PyData.noDict_hsm h2) hg (by omega) (fun _ _ e => e) (fun h' t tk kk => fin h' t tk kk) h3'
    | tuple a1 a2 a3 a4 => exact repr_of_reads' (.tuple a1 a2 a3 a4) h1 (PyData.noDict_hsm h2) hg (by omega) (fun _ _ e => e) (fun h' t tk kk => fin h' t tk kk) h3'
    | dict a1 a2 a3 a4 a5 => simp [PyData.hasDict] at h2
  · unfold reprF at ho
    split at ho
    · split at ho
      · rename_i p _ d e
        split at ho
        · rename_i hd
          cases ho
          obtain ⟨v, rfl, r, _⟩ := hx.one
          exact ⟨v, d, rfl, r.dp e, hd.1, hd.2.1, hd.2.2.1, hd.2.2.2, hQ H _ Ext.refl mk_str⟩
        · cases ho
      · cases ho
    · cases ho
end
section
variable {X : Cx} {W : WX} {a b e : Expr} {fa : EF PV} {p p2 p3 pos : Pos}
/-- isinstance(a, T) -/
theorem m_isi {T : Ty} {n : Str} (ha : MB X W a fa) (hg : Gl X "isinstance") (hm : X.mg "isinstance" = none) (hg2 : Gl X n) (hm2 : X.mg n = none) (hv : bootBuiltins n = some (.type T.name)) (hn : n ≠ "__name__" := by decide) (hd : (n == ("__debug__" : Str)) = false := by decide)
    (h1 : starEach [a, .Name n p2] X.env = (false, eval a X.env) :: starEach [.Name n p2] X.env := by rfl) (h2 : starEach [.Name n p2] X.env = (false, eval (.Name n p2) X.env) :: starEach [] X.env := by rfl)
    (hpl : (backTo pos (starEach [.Name n p2] X.env)).any (·.1) = false := by rfl) : ME X W (.Call (.Name "isinstance" p) [a, .Name n p2] [] pos) (eUn (isiF T) fa) := by
  obtain ⟨ta, pa, qa⟩ := ha
  refine ⟨_, pe_callB call_isi hg hm (by decide +kernel) (pa_cons pa (pa_cons (pe_bltn (v := .ty T.name) hg2 hm2 hv rfl hn hd) pa_nil h2) h1) (by decide) (by decide) h1 hpl, fun B ρ env st σ H Q R h => ?_⟩
  refine qa B ρ env st σ H _ R (ROk.mono (ROk.bind h) fun q ρ1 st1 H1 E1 h1 x rx => ?_)
  obtain ⟨z, ez, hz⟩ := ROk.of E1.rep h1
  unfold isiF at ez
  cases eb : isiB T q with
  | none => rw [eb] at ez; cases ez
  | some k =>
    rw [eb] at ez
    cases ez
    obtain ⟨k1, k2⟩ := isi_kit eb
    exact ⟨x, .ty T.name, .type (tyN q), .type T.name, k, rfl, .ty T.name, ty_of rx.1 k2, kit_ty k1, hz H1 Ext.refl _ mk_bl⟩
def rngL (f : EF PV) : EF (List PV) := fun e st => (f e st).bind fun v st => match v with
  | .int n => if -LINE ≤ n ∧ n ≤ LINE then .ok (rangeF 0 n.toNat) st else .stuck
  | _ => .stuck
end
end PL
/-! PLk: enumerate and zip; two names at once; list.remove. -/
namespace PL
open PySem PySem.Spec L2
/-! ### enumerate of a tuple -/
theorem enum1_meets {v : Value} {o : Obj} {G : Heap → Prop} (B : Begins v o G) :
    Meets (Builtin.«enumerate.__new__» ⟨[.type "enumerate", v], []⟩) (fun _ R s => G s.heap ∧ R (.ok (.ret (.ref (s.heap.push o).objs.size)))
      { s with heap := (s.heap.push o).push { cls := .type "enumerate", data := .fields #[.none, .bool false, .ref s.heap.objs.size, rawInt 0, .none, .none] } }) :=
  .of_wp fun prog w A R s h => by
    obtain ⟨hp, g, d, tk, os⟩ := s
    obtain ⟨h1, h⟩ := h
    have hsub := sub_enumerate
    have q1 : ∀ {A' : Around} {E : Value → Shared → Prop} {Q : Value → Shared → Prop}, Q (.ref hp.objs.size) ⟨hp.push o, g, d, tk, os⟩ → wpAny (model prog w) A' (pyIter v) Q E ⟨hp, g, d, tk, os⟩ := fun q => B.iter prog w _ _ ⟨hp, g, d, tk, os⟩ _ h1 q
    wp_walk using q1
    refine wpAny_stack_any fun st => wpAny_pure ?_
    split
    · rename_i c _ _ _ _ _
      cases (c == Value.type "enumerate")
      all_goals
        wp_walk using q1
        exact ⟨_, rfl, h⟩
    · wp_walk using q1
      exact ⟨_, rfl, h⟩
theorem enum1_begins {prog : Program} {w : World} {A : Around} {E : Value → Shared → Prop} {s : Shared} {v : Value} {o : Obj} {G : Heap → Prop} {Q : Value → Shared → Prop} (B : Begins v o G) (h1 : G s.heap)
    (h : ∀ h', IsEnum h' (s.heap.objs.size + 1) s.heap.objs.size 0 .none → h'.get? s.heap.objs.size = some o → h'.objs.size = s.heap.objs.size + 2 → (∀ b o, s.heap.get? b = some o → h'.get? b = some o) → Q (.ref (s.heap.objs.size + 1)) { s with heap := h' }) :
    wpAny (model prog w) A (call (.type "enumerate") [v]) Q E s := by
  refine callType_new F.called_enumerate (by decide) (F.typeCall_enumerate_1 _) (F.newCall_enumerate_1 _) (fun obj => F.args_object_init_2 obj _) F.entry_enumerate_new (enum1_meets B) ⟨h1, ?_⟩
  have hz : (s.heap.push o).objs.size = s.heap.objs.size + 1 := Heap.size_push ..
  show _ ∧ _
  rw [hz]
  have he := Heap.get?_push_size (s.heap.push o) (o := { cls := .type "enumerate", data := .fields #[.none, .bool false, .ref s.heap.objs.size, rawInt 0, .none, .none] }) rfl
  rw [hz] at he
  exact ⟨⟨_, he, rfl⟩, h _ he (Heap.get?_push_of_some _ (Heap.get?_push_size _ B.free)) (by rw [Heap.size_push, hz]) fun b u x => Heap.get?_push_of_some _ (Heap.get?_push_of_some _ x)⟩
def IteT (K : PySem.W.Frag) (a : Addr) : It :=
  ⟨fun i H => ∃ (xs : List V) (x : V), SqT K H a xs ∧ xs[i]? = some x, fun i H v H' => ∃ T x, v = .ref T ∧ H T = none ∧ H' = upd H T (.tup [.int (i : Nat), x]) ∧ ∀ xs, SqT K H a xs → xs[i]? = some x,
    fun i H => ∃ xs : List V, SqT K H a xs ∧ xs.length = i⟩
theorem turn_enumT {P : Program} {w : World} {K : PySem.W.Frag} {elts : List Expr} {kk : Nat} {tpos : Pos} (a e it : Addr) (hai : a ≠ it) (hea : e ≠ a) :
    Turn P w K (.Tuple elts kk tpos) (IteT K a) [e, it] e (fun i h => (∃ old, IsEnum h e it ((i : Nat) : Int) old) ∧ h.IsTupleIter it a i ∧ e ≠ it) where
  mem := by simp
  obj := fun i h st b hb => by
    obtain ⟨⟨old, he⟩, ⟨o, ho, hc, hd⟩, _⟩ := st
    have e' : b = e ∨ b = it := by simpa using hb
    rcases e' with z | z
    · exact ⟨_, by rw [z]; exact he, fun v q => by have q' : Data.fields _ = Data.cell v := q; cases q'⟩
    · exact ⟨o, by rw [z]; exact ho, fun v q => by rw [hd] at q; cases q⟩
  keep := fun i h h' st k => by
    obtain ⟨⟨old, he⟩, hi, hne⟩ := st
    exact ⟨⟨old, k e (by simp) _ he⟩, hi.at fun o q => k it (by simp) o q, hne⟩
  item := by
    intro X hP hw hK hc i pins s σ H E I hf st hg
    subst hP hw hK
    obtain ⟨⟨old, he⟩, hit, hne⟩ := st
    obtain ⟨xs, x, hq, hx⟩ := hg
    obtain ⟨its, rv, p, hz⟩ := I.tuple hq
    obtain ⟨u, hu, ru⟩ := rv.get hx
    have hel : e < s.heap.objs.size := Heap.lt_size he
    have hil : it < s.heap.objs.size := by obtain ⟨_, q, _⟩ := hit; exact Heap.lt_size q
    have hlt : i < its.toArray.size := by
      rw [List.size_toArray]
      exact (List.getElem?_eq_some_iff.mp hu).1
    have hef : e ∉ [it, a] := by simp only [List.mem_cons, List.not_mem_nil, or_false, not_or]; exact ⟨hne, hea⟩
    refine wpAny_pyNext_enum_itemD (Draws.tuple (A := X.A.in1) (prog := X.prog) (w := X.w) (I.ok.hd hc) it a hai its.toArray) he ⟨hit, p⟩ hlt hne hef fun x' h' tk hx' ho hit' hT hsz hk => ?_
    have ex : x' = u := by
      have q : its.toArray[i]? = some x' := hx'
      rw [List.getElem?_toArray, hu] at q
      cases q
      rfl
    subst ex
    refine ⟨_, rfl, wpAny_letOwnedTupleGo_enum (s := { s with heap := h', toks := tk + 1 }) ho fun h'' he' sb => ?_⟩
    have hT2 : h''.get? s.heap.objs.size = some { cls := .type "tuple", data := .seq #[.int i tk, x'] } := (sb.2 _ (Nat.ne_of_gt hel)).trans hT
    have new : ObjOk X.prog X.w (upd H s.heap.objs.size (.tup [.int (i : Nat), x])) h'' s.heap.objs.size (.tup [.int (i : Nat), x]) :=
      ⟨by show 2 ≤ sizeLine; decide, [.int i tk, x'], .cons ⟨_, rfl⟩ (.cons ru .nil), ⟨_, hT2, rfl, _, rfl⟩⟩
    have I1 : Inv X pins σ (upd H s.heap.objs.size (.tup [.int (i : Nat), x])) { s with heap := h'', toks := tk + 1 } :=
      I.turnedNew (ch := [e, it]) (fun b ob hb q => (sb.2 b (fun z => hb (by simp [z]))).trans (hk b ob (fun z => hb (by simp [z])) (fun z => hb (by simp [z])) q)) hf (Nat.le_refl _) new
    refine ⟨.ref s.heap.objs.size, _, I1, rfl, ⟨_, x, rfl, I.hok.fresh (Nat.le_refl _), rfl, fun ys hy => by rw [I.tuple_inj hy hq]; exact hx⟩, ⟨⟨x', ?_⟩, hit'.1.at fun o q => (sb.2 it (Ne.symm hne)).trans q, hne⟩, fun b hb => ?_⟩
    · rw [show ((i + 1 : Nat) : Int) = (i : Int) + 1 by omega]
      exact he'
    · have hb' : b < s.heap.objs.size := by
        have e' : b = e ∨ b = it := by simpa using hb
        rcases e' with z | z <;> rw [z] <;> assumption
      rw [upd_ne (Nat.ne_of_lt hb')]
      exact (hf b hb).1
  done := by
    intro X hP hw hK hc i pins s σ H E I hf st hg
    subst hP hw hK
    obtain ⟨⟨old, he⟩, hit, hne⟩ := st
    obtain ⟨xs, hq, hx⟩ := hg
    obtain ⟨its, rv, p, hz⟩ := I.tuple hq
    obtain ⟨f0, f1, f2, f3, f4, f5⟩ := hf it (by simp)
    have hn : its.toArray.size = i := by rw [List.size_toArray, ← rv.length]; exact hx
    exact wpAny_pyNext_enum_endD (Draws.tuple (A := X.A.in1) (prog := X.prog) (w := X.w) (I.ok.hd hc) it a hai its.toArray) he (by rw [hn]; exact ⟨hit, p⟩) fun h' eb => ⟨rfl, I.turned (t' := s.toks) (fun b o hb q => eb b o hb q) f0 f1 f3 f4 f5⟩
  self := fun A i s Q E st h => by
    obtain ⟨⟨_, he⟩, _⟩ := st
    exact wpAny_pyIter_enum he h
/-- enumerate(t), t a tuple -/
def iEnumT (K : PySem.W.Frag) (ta : TA) : TI := fun σ H R => ta σ H fun vs H1 => ∃ a xs, vs = [.ref a] ∧ SqT K H1 a xs ∧ R (IteT K a) H1
theorem pi_enumT {X : Cx} {e : Expr} {ta : TA} {p pos tpos : Pos} {elts : List Expr} {kk : Nat} (hg : Gl X "enumerate") (hm : X.mg "enumerate" = none) (ha : PA X [e] ta) (hs : starEach [e] X.env = [(false, eval e X.env)] := by rfl) :
    PI X (.Tuple elts kk tpos) (.Call (.Name "enumerate" p) [e] [] pos) (iEnumT X.K ta) := by
  refine ⟨fun pins s σ H R I h => ?_⟩
  refine PyProof.Rows.Call_ (ld_blt I hg hm PyProof.Rows.boot_enumerate (PyProof.Rows.callWith_type1 (thn (ha.run pos pins s σ H _ I h) fun us s1 ⟨vs, H1, I1, r1, q1⟩ => ?_) hs rfl))
  obtain ⟨a, xs, rfl, hq, q⟩ := q1
  obtain ⟨u, rfl, ru⟩ := vals1 r1
  cases ru
  obtain ⟨its, rv, p', hz⟩ := I1.tuple hq
  have hal : a < s1.heap.objs.size := p'.lt
  refine enum1_begins (begins_tuple a its.toArray) p' fun h' he hit hsz hk => wpAny_pyIter_enum he ?_
  have I2 : Inv X pins σ H1 { s1 with heap := h' } := I1.kept (t' := s1.toks) hk
  refine ⟨s1.heap.objs.size + 1, [s1.heap.objs.size + 1, s1.heap.objs.size], _, _, H1, rfl, I2, turn_enumT a (s1.heap.objs.size + 1) s1.heap.objs.size (Nat.ne_of_lt hal) (Nat.ne_of_gt (Nat.lt_succ_of_lt hal)), ⟨⟨.none, he⟩, ⟨_, hit, rfl, rfl⟩, Nat.succ_ne_self _⟩, fun b hb => ?_, q⟩
  have hle : s1.heap.objs.size ≤ b := by
    have e' : b = s1.heap.objs.size + 1 ∨ b = s1.heap.objs.size := by simpa using hb
    rcases e' with z | z
    · rw [z]; exact Nat.le_succ _
    · rw [z]; exact Nat.le_refl _
  exact I1.fpOk hle (I1.hok.fresh hle)
theorem walk_enumT {K : PySem.W.Frag} {a : Addr} {xs : List V} : Walk (IteT K a) xs.length (fun H => SqT K H a xs) (YPair (fun i => some (.int (i : Nat))) (fun i => xs[i]?)) := by
  refine ⟨fun i _ hi q => ⟨xs, xs[i], q, by simp [hi]⟩, fun _ q => ⟨xs, q, rfl⟩, fun i H v H' _ q y => ?_⟩
  obtain ⟨T, x, h1, h2, h3, h4⟩ := y
  exact ⟨T, .int (i : Nat), x, h1, h2, h3, rfl, h4 xs q⟩
theorem walk_zipT {K : PySem.W.Frag} {a b : Addr} {xs ys : List V} {n : Nat} (hn : n = min xs.length ys.length) : Walk (RZ.ItzT K a b) n (fun H => SqT K H a xs ∧ SqT K H b ys) (YPair (fun i => xs[i]?) (fun i => ys[i]?)) := by
  subst hn
  refine ⟨fun i _ hi q => ⟨xs, ys, xs[i]'(by omega), ys[i]'(by omega), q.1, q.2, by simp, by simp⟩, fun _ q => ⟨xs, ys, q.1, q.2, by omega⟩, fun i H v H' _ q y => ?_⟩
  obtain ⟨T, x, z, h1, h2, h3, h4, h5⟩ := y
  exact ⟨T, x, z, h1, h2, h3, h4 xs q.1, h5 ys q.2⟩
/-! ### their items -/
theorem enumF_len : ∀ (l : List PV) (n : Nat), (enumF n l).length = l.length
  | [], _ => rfl
  | _ :: l, n => by unfold enumF; rw [List.length_cons, List.length_cons, enumF_len l]
theorem enumF_get : ∀ (l : List PV) (n i : Nat) (p : PV), (enumF n l)[i]? = some p → ∃ q, l[i]? = some q ∧ p = .tup [.int ((n + i : Nat) : Int), q]
  | [], _, _, _, h => by simp [enumF] at h
  | x :: l, n, 0, p, h => by
    unfold enumF at h
    have h' : PV.tup [.int n, x] = p := by simpa using h
    exact ⟨x, rfl, by rw [← h']; rfl⟩
  | x :: l, n, i + 1, p, h => by
    unfold enumF at h
    obtain ⟨q, h1, h2⟩ := enumF_get l (n + 1) i p (by simpa using h)
    refine ⟨q, by simpa using h1, ?_⟩
    rw [h2, show n + 1 + i = n + (i + 1) by omega]
theorem zipF_len : ∀ (l m : List PV), (zipF l m).length = min l.length m.length
  | [], _ => by simp [zipF]
  | _ :: _, [] => by simp [zipF]
  | _ :: l, _ :: m => by
    unfold zipF
    rw [List.length_cons, List.length_cons, List.length_cons, zipF_len l m]
    omega
theorem zipF_get : ∀ (l m : List PV) (i : Nat) (p : PV), (zipF l m)[i]? = some p → ∃ q r, l[i]? = some q ∧ m[i]? = some r ∧ p = .tup [q, r]
  | [], _, _, _, h => by simp [zipF] at h
  | _ :: _, [], _, _, h => by simp [zipF] at h
  | x :: l, y :: m, 0, p, h => by
    unfold zipF at h
    have h' : PV.tup [x, y] = p := by simpa using h
    exact ⟨x, y, rfl, rfl, h'.symm⟩
  | x :: l, y :: m, i + 1, p, h => by
    unfold zipF at h
    obtain ⟨q, r, h1, h2, h3⟩ := zipF_get l m i p (by simpa using h)
    exact ⟨q, r, by simpa using h1, by simpa using h2, h3⟩
section
variable {K : PySem.W.Frag} {N M : Addr → Prop} {ρ : List Addr} {H0 : Hp}
theorem enum_items {l : List PV} {xs : List V} (r : RVs K N ρ H0 l xs) (i : Nat) (p : PV) (x y : V) (hp : (enumF 0 l)[i]? = some p) (hx : some (V.int (i : Nat)) = some x) (hy : xs[i]? = some y) : ∃ q s, p = .tup [q, s] ∧ RV K N ρ H0 q x ∧ RV K N ρ H0 s y := by
  obtain ⟨q, h1, h2⟩ := enumF_get l 0 i p hp
  obtain ⟨v, h3, h4⟩ := r.get h1
  rw [hy] at h3
  cases h3
  cases hx
  exact ⟨_, _, h2, by rw [Nat.zero_add]; exact mk_int, h4⟩
theorem zip_items {l m : List PV} {xs ys : List V} (r : RVs K N ρ H0 l xs) (s : RVs K N ρ H0 m ys) (i : Nat) (p : PV) (x y : V) (hp : (zipF l m)[i]? = some p) (hx : xs[i]? = some x) (hy : ys[i]? = some y) : ∃ q t, p = .tup [q, t] ∧ RV K N ρ H0 q x ∧ RV K N ρ H0 t y := by
  obtain ⟨q, t, h1, h2, h3⟩ := zipF_get l m i p hp
  obtain ⟨v, h4, h5⟩ := r.get h1
  obtain ⟨w, h6, h7⟩ := s.get h2
  rw [hx] at h4
  rw [hy] at h6
  cases h4
  cases h6
  exact ⟨q, t, h3, h5, h7⟩
end
def iEnum1 (g : EF (List PV)) : EF (List PV) := fun e st => (g e st).bind fun vs st => match vs with
  | [.tup l] => .ok (enumF 0 l) st
  | [.lst l] => .ok (enumF 0 l) st
  | _ => .stuck
def iZip2 (g : EF (List PV)) : EF (List PV) := fun e st => (g e st).bind fun vs st => match vs with
  | [.tup l, .tup m] => .ok (zipF l m) st
  | [.lst l, .lst m] => .ok (zipF l m) st
  | _ => .stuck
section
variable {X : Cx} {W : WX} {e e2 : Expr} {g : EF (List PV)} {p pos tpos : Pos} {elts : List Expr} {kk : Nat}
theorem mi_enum (hg : Gl X "enumerate") (hm : X.mg "enumerate" = none) (ha : MA X W [e] g) (hs : starEach [e] X.env = [(false, eval e X.env)] := by rfl) : MI X W (.Tuple elts kk tpos) (.Call (.Name "enumerate" p) [e] [] pos) (iEnum1 g) := by
  obtain ⟨t, pt, q⟩ := ha
  refine ⟨_, PI.or (pi_enum hg hm pt hs) (pi_enumT hg hm pt hs), fun B ρ env st σ H R Rp h => ?_⟩
  unfold iEnum1 at h
  cases hf : g env st with
  | stuck => rw [hf] at h; exact h.elim
  | exc x st1 =>
    rw [hf] at h
    refine .inl (q B ρ env st σ H _ Rp ?_)
    rw [hf]
    exact h
  | ok vl st1 =>
    rw [hf] at h
    have h : ROk X.K W B ρ env σ H (match vl with
      | [.tup l] => RE.ok (enumF 0 l) st1
      | [.lst l] => .ok (enumF 0 l) st1
      | _ => .stuck) _ := h
    split at h
    · rename_i l
      refine .inr (q B ρ env st σ H _ Rp ?_)
      rw [hf]
      intro ρ1 H1 E1 us rus
      obtain ⟨u, rfl, ru⟩ := rus.one
      obtain ⟨z, xs, rfl, h1, h2, h3⟩ := rv_tup ru
      exact ⟨z, xs, rfl, h1.sq, h ρ1 H1 E1 _ H1 Ext.refl (iter_pair walk_enumT (fun H k => h1.keep k fun _ z => z) (by rw [enumF_len, h3.len]) h2 (enum_items h3))⟩
    · rename_i l
      refine .inl (q B ρ env st σ H _ Rp ?_)
      rw [hf]
      intro ρ1 H1 E1 us rus
      obtain ⟨u, rfl, ru⟩ := rus.one
      obtain ⟨z, xs, rfl, n, h1, h2, h3⟩ := rv_lst ru
      exact ⟨z, xs, rfl, SqL.of h1, h ρ1 H1 E1 _ H1 Ext.refl (iter_pair walk_enum (fun H k => SqL.of (k z _ h1 n)) (by rw [enumF_len, h3.len]) h2 (enum_items h3))⟩
    · exact h.elim
theorem mi_zip (hg : Gl X "zip") (hm : X.mg "zip" = none) (ha : MA X W [e, e2] g) (hs : starEach [e, e2] X.env = (false, eval e X.env) :: starEach [e2] X.env := by rfl) (hpl : (backTo pos (starEach [e2] X.env)).any (·.1) = false := by rfl) :
    MI X W (.Tuple elts kk tpos) (.Call (.Name "zip" p) [e, e2] [] pos) (iZip2 g) := by
  obtain ⟨t, pt, q⟩ := ha
  refine ⟨_, RZ.pi_zipA hg hm pt hs hpl, fun B ρ env st σ H R Rp h => ?_⟩
  refine q B ρ env st σ H _ Rp (ROk.mono (ROk.bind h) fun vl ρ1 st1 H1 E1 h us rus => ?_)
  split at h
  · rename_i l m
    obtain ⟨u, v, rfl, ru, rv⟩ := rus.two
    obtain ⟨z, xs, rfl, h1, h2, h3⟩ := rv_tup ru
    obtain ⟨y, ys, rfl, h1', h2', h3'⟩ := rv_tup rv
    exact ⟨z, y, xs, ys, rfl, .inr ⟨h1.sq, h1'.sq, h ρ1 H1 (.refl E1.rep) _ H1 Ext.refl (iter_pair (walk_zipT rfl) (fun H k => ⟨h1.keep k fun _ z => z, h1'.keep k fun _ z => z⟩) (by rw [zipF_len, h3.len, h3'.len]) (Nat.le_trans (Nat.min_le_left _ _) h2) (zip_items h3 h3'))⟩⟩
  · rename_i l m
    obtain ⟨u, v, rfl, ru, rv⟩ := rus.two
    obtain ⟨z, xs, rfl, n, h1, h2, h3⟩ := rv_lst ru
    obtain ⟨y, ys, rfl, n', h1', h2', h3'⟩ := rv_lst rv
    exact ⟨z, y, xs, ys, rfl, .inl ⟨SqL.of h1, SqL.of h1', h ρ1 H1 (.refl E1.rep) _ H1 Ext.refl (iter_pair (walk_zip rfl) (fun H k => ⟨SqL.of (k z _ h1 n), SqL.of (k y _ h1' n')⟩) (by rw [zipF_len, h3.len, h3'.len]) (Nat.le_trans (Nat.min_le_left _ _) h2) (zip_items h3 h3'))⟩⟩
  · exact h.elim
end
end PL
/-! PLl: several names at once; lists cut; an item taken out. -/
namespace PL
open PySem PySem.Spec L2
/-- what is put in a name: a value, or a new list -/
def NewE (K : PySem.W.Frag) (N : Addr → Prop) (ρ : List Addr) (Hv : Hp) : EV → V → Hp → Hp → Prop
  | .non, _, _, _ => False
  | .val v, u, H, H' => H' = H ∧ RV K N ρ Hv v u
  | .own l, u, H, H' => ∃ p xs, u = .ref p ∧ H p = none ∧ H' = upd H p (.lst xs) ∧ xs.length ≤ LINE ∧ RVs K N ρ Hv l xs
def NewEs (K : PySem.W.Frag) (N : Addr → Prop) (ρ : List Addr) (Hv : Hp) : List EV → List V → Hp → Hp → Prop
  | [], us, H, H' => us = [] ∧ H' = H
  | x :: xs, us, H, H' => ∃ u ws H1, us = u :: ws ∧ NewE K N ρ Hv x u H H1 ∧ NewEs K N ρ Hv xs ws H1 H'
def setEs : List Nat → List EV → Env → Option Env
  | [], [], e => some e
  | i :: is, x :: xs, e => if i < e.length then setEs is xs (e.set i x) else none
  | _, _, _ => none
def eVal (f : EF PV) : EF EV := fun e st => (f e st).bind fun v st => .ok (.val v) st
def eNew (f : EF (List PV)) : EF EV := fun e st => (f e st).bind fun v st => .ok (.own v) st
def nNil : EF (List EV) := fun _ st => .ok [] st
def nCons (f : EF EV) (r : EF (List EV)) : EF (List EV) := fun e st => (f e st).bind fun x st => (r e st).bind fun xs st => .ok (x :: xs) st
def sPar (is : List Nat) (f : EF (List EV)) : SF := fun e st => (f e st).toS e fun xs st => match setEs is xs e with
  | some e1 => .nx e1 st
  | none => .stuck
section
variable {K : PySem.W.Frag} {B : Addr → Prop} {N : Addr → Prop} {ρ ρ1 ρ2 : List Addr} {env : Env} {st st1 st2 : Sto} {σ : L2.St} {H H1 H2 H3 Hv : Hp}
theorem NewE.ext {x : EV} {u : V} (h : NewE K N ρ Hv x u H H1) : Ext H H1 := by
  cases x with
  | non => exact h.elim
  | val v => obtain ⟨rfl, _⟩ := h; exact Ext.refl
  | own l => obtain ⟨p, xs, rfl, h1, rfl, _⟩ := h; exact Ext.new h1
theorem NewEs.ext : ∀ {xs : List EV} {us : List V} {H H1 : Hp}, NewEs K N ρ Hv xs us H H1 → Ext H H1
  | [], _, _, _, h => by obtain ⟨_, rfl⟩ := h; exact Ext.refl
  | x :: xs, _, _, _, h => by
    obtain ⟨u, ws, H2, rfl, h1, h2⟩ := h
    exact h1.ext.trans (NewEs.ext h2)
theorem NewE.re {N' : Addr → Prop} {ρ' : List Addr} {Hv' : Hp} (f : ∀ p v, RV K N ρ Hv p v → RV K N' ρ' Hv' p v) (g : ∀ p v, RVs K N ρ Hv p v → RVs K N' ρ' Hv' p v) {x : EV} {u : V} (h : NewE K N ρ Hv x u H H1) : NewE K N' ρ' Hv' x u H H1 := by
  cases x with
  | non => exact h.elim
  | val v => exact ⟨h.1, f _ _ h.2⟩
  | own l => obtain ⟨p, xs, h0, h1, h2, h3, h4⟩ := h; exact ⟨p, xs, h0, h1, h2, h3, g _ _ h4⟩
theorem NewEs.re {N' : Addr → Prop} {ρ' : List Addr} {Hv' : Hp} (f : ∀ p v, RV K N ρ Hv p v → RV K N' ρ' Hv' p v) (g : ∀ p v, RVs K N ρ Hv p v → RVs K N' ρ' Hv' p v) : ∀ {xs : List EV} {us : List V} {H H1 : Hp}, NewEs K N ρ Hv xs us H H1 → NewEs K N' ρ' Hv' xs us H H1
  | [], _, _, _, h => h
  | x :: xs, _, _, _, h => by
    obtain ⟨u, ws, H2, e, h1, h2⟩ := h
    exact ⟨u, ws, H2, e, h1.re f g, NewEs.re f g h2⟩
theorem Rep.setNew (R : Rep K B ρ env st σ H) {i : Nat} {x : EV} {u : V} (hi : i < env.length) (h : NewE K (Excl B ρ env σ) ρ H x u H H1) : Post K B ρ env σ H ρ (env.set i x) st (σ.set i (some u)) H1 := by
  cases x with
  | non => exact h.elim
  | val v => obtain ⟨rfl, r⟩ := h; exact R.setVal hi r
  | own l => obtain ⟨p, xs, rfl, h1, rfl, h3, h4⟩ := h; exact R.setOwn hi h1 h3 h4
/-- the names' slots filled -/
def setVs : List Nat → List V → L2.St → L2.St
  | i :: is, u :: us, σ => setVs is us (σ.set i (some u))
  | _, _, σ => σ
theorem Rep.setNews : ∀ {is : List Nat} {xs : List EV} {us : List V} {env env1 : Env} {σ : L2.St} {H H1 : Hp}, Rep K B ρ env st σ H → setEs is xs env = some env1 → NewEs K (Excl B ρ env σ) ρ H xs us H H1 →
    Post K B ρ env σ H ρ env1 st (setVs is us σ) H1
  | [], [], us, env, env1, σ, H, H1, R, e, h => by
    cases e
    obtain ⟨rfl, rfl⟩ := h
    exact .refl R
  | i :: is, x :: xs, us, env, env1, σ, H, H1, R, e, h => by
    obtain ⟨u, ws, H2, rfl, h1, h2⟩ := h
    unfold setEs at e
    split at e
    · rename_i hi
      have P1 := R.setNew hi h1
      exact P1.trans (Rep.setNews P1.rep e (h2.re (fun _ _ => P1.rv) (fun _ _ => P1.rvs)))
    · cases e
  | [], _ :: _, _, _, _, _, _, _, _, e, _ => by cases e
  | _ :: _, [], _, _, _, _, _, _, _, e, _ => by cases e
/-- a new list that stands aside -/
theorem EPost.aside {p : Addr} {xs : List V} (R1 : Rep K B ρ1 env st1 σ H1) (np : H1 p = none) (E : EPost K (Inner B env σ [] p) ρ1 env σ (upd H1 p (.lst xs)) ρ2 st2 H2) :
    ∃ Hz : Hp, Hz p = none ∧ H2 = upd Hz p (.lst xs) ∧ EPost K B ρ1 env σ H1 ρ2 st2 Hz ∧ (∀ a o, H2 a = some o → ¬ Excl (Inner B env σ [] p) ρ2 env σ a → Hz a = some o) ∧ ∀ a, Excl B ρ2 env σ a → Excl (Inner B env σ [] p) ρ2 env σ a := by
  let Hz : Hp := fun a => if a = p then none else H2 a
  have zD : Hz p = none := if_pos rfl
  have zn : ∀ {a}, a ≠ p → Hz a = H2 a := fun h => if_neg h
  have pR : p ∉ ρ1 := fun z => R1.rT p z np
  have hD : H2 p = some (.lst xs) := E.kp p _ upd_same pR
  have nR : ∀ a ∈ ρ2, a ≠ p := fun a h z => E.rep.rB a h (.inr (.inl z))
  have EX : Ext H1 (upd H1 p (.lst xs)) := .new np
  have k0 : ∀ a o, H1 a = some o → a ∉ ρ1 → Hz a = some o := fun a o e n => by
    rw [zn (ne_of_none e np)]
    exact E.kp a o (EX a o e) n
  have k1 : ∀ a o, H2 a = some o → ¬ Excl (Inner B env σ [] p) ρ2 env σ a → Hz a = some o := fun a o e n => by
    rw [zn (fun z => n (by rw [z]; exact .inl (.inr (.inl rfl))))]
    exact e
  have less : ∀ a, Excl B ρ2 env σ a → Excl (Inner B env σ [] p) ρ2 env σ a := fun a n => (excl_inner (vs := [])).mpr (.inl n)
  have fr : ∀ a ∈ ρ2, a ∉ ρ1 → H1 a = none := fun a h n => by
    have q := E.fr a h n
    rw [upd_ne (nR a h)] at q
    exact q
  have trz : ∀ a, H1 a ≠ none → Hz a ≠ none := fun a h => by
    rw [zn (fun z => h (by rw [z]; exact np))]
    exact E.tr a fun z => by
      cases e : H1 a with
      | none => exact h e
      | some o => rw [EX a o e] at z; cases z
  refine ⟨Hz, zD, ?_, ⟨Rep.back R1 E.rep E.pre k0 fr (fun a h => zn (nR a h)) k1 less fun a h z => E.rep.rB a h (.inl z), E.pre, k0, trz, fr⟩, k1, less⟩
  funext a
  by_cases ha : a = p
  · rw [ha, upd_same, hD]
  · rw [upd_ne ha, zn ha]
end
def MN (X : Cx) (W : WX) (e : Expr) (f : EF EV) : Prop := ∃ t, PE X e t ∧ ∀ B ρ env st σ H Q, Rep X.K B ρ env st σ H →
  ROk X.K W B ρ env σ H (f env st) (fun x ρ' st' H' => ∀ u H'', NewE X.K (Excl B ρ' env σ) ρ' H' x u H' H'' → Q u H'') → t σ H Q
def MNs (X : Cx) (W : WX) (es : List Expr) (f : EF (List EV)) : Prop := ∃ t, PA X es t ∧ ∀ B ρ env st σ H Q, Rep X.K B ρ env st σ H →
  ROk X.K W B ρ env σ H (f env st) (fun xs ρ' st' H' => ∀ us H'', NewEs X.K (Excl B ρ' env σ) ρ' H' xs us H' H'' → Q us H'') → t σ H Q
section
variable {X : Cx} {W : WX} {e a b : Expr} {es : List Expr} {f : EF PV} {fl : EF (List PV)} {fe : EF EV} {fs : EF (List EV)}
theorem ME.mn (h : ME X W e f) : MN X W e (eVal f) := by
  obtain ⟨t, p, q⟩ := h
  refine ⟨t, p, fun B ρ env st σ H Q R h => q B ρ env st σ H Q R (ROk.mono (ROk.bind h) fun v ρ1 st1 H1 E1 h1 u ru => ?_)⟩
  exact h1 ρ1 H1 (.refl E1.rep) u H1 ⟨rfl, ru⟩
theorem ML.mn (h : ML X W e fl) : MN X W e (eNew fl) := by
  obtain ⟨t, p, q⟩ := h
  refine ⟨t, p, fun B ρ env st σ H Q R h => q B ρ env st σ H Q R (ROk.mono (ROk.bind h) fun v ρ1 st1 H1 E1 h1 p xs H2 np e2 hl rxs => ?_)⟩
  exact h1 ρ1 H1 (.refl E1.rep) (.ref p) H2 ⟨p, xs, rfl, np, e2, hl, rxs⟩
theorem mns_nil : MNs X W [] nNil := ⟨tNil, pa_nil, fun B ρ env st σ H Q R h => h ρ H (.refl R) [] H ⟨rfl, rfl⟩⟩
theorem mns_cons (he : MN X W e fe) (hr : MNs X W es fs) (hs : starEach (e :: es) X.env = (false, eval e X.env) :: starEach es X.env := by rfl) : MNs X W (e :: es) (nCons fe fs) := by
  obtain ⟨t, p, q⟩ := he
  obtain ⟨t2, p2, q2⟩ := hr
  refine ⟨_, pa_cons p p2 hs, fun B ρ env st σ H Q R h => ?_⟩
  refine q B ρ env st σ H _ R (ROk.mono (ROk.bind h) fun x ρ1 st1 H1 E1 h1 u H2 hn => ?_)
  cases x with
  | non => exact hn.elim
  | val v =>
    obtain ⟨rfl, ru⟩ := hn
    refine q2 B ρ1 env st1 σ H2 _ E1.rep (ROk.mono (ROk.bind h1) fun xs ρ2 st2 H3 E2 h2 us H4 hns => ?_)
    exact h2 ρ2 H3 (.refl E2.rep) (u :: us) H4 ⟨u, us, H3, rfl, ⟨rfl, E2.post.rv ru⟩, hns⟩
  | own l =>
    obtain ⟨p, xv, rfl, np, rfl, hl, rl⟩ := hn
    have R1 := E1.rep
    have RI : Rep X.K (Inner B env σ [] p) ρ1 env st1 σ (upd H1 p (.lst xv)) := R1.wiped np []
    refine q2 (Inner B env σ [] p) ρ1 env st1 σ (upd H1 p (.lst xv)) _ RI ?_
    cases hf : fs env st1 with
    | stuck => rw [hf] at h1; exact h1.elim
    | exc y st2 =>
      rw [hf] at h1
      intro ρ2 H2 cls d E2 hx
      obtain ⟨Hz, z1, z2, EZ, k1, less⟩ := E2.aside R1 np
      have EE : EPost X.K B ρ2 env σ Hz ρ2 st2 H2 := by rw [z2]; exact .ext EZ.rep (.new z1)
      refine h1 ρ2 H2 cls d (EZ.trans EE) ⟨hx.1, hx.2.imp id ?_⟩
      rintro ⟨dd, fvs, e0, e1, e2, en, e3, e4⟩
      exact ⟨dd, fvs, e0, e1, e2, fun z => en (less dd z), e3, RVs.carry (fun a _ _ n => less a n) (fun _ _ e _ => e) List.prefix_rfl _ _ e4⟩
    | ok xs st2 =>
      rw [hf] at h1
      intro ρ2 H2 E2 us H4 hns
      obtain ⟨Hz, z1, z2, EZ, k1, less⟩ := E2.aside R1 np
      have h2 := h1 ρ2 Hz EZ
      refine h2 (.ref p :: us) H4 ⟨.ref p, us, H2, rfl, ⟨p, xv, rfl, z1, z2, hl, EZ.post.rvs rl⟩, ?_⟩
      exact hns.re (fun q v r => RV.carry (fun a _ _ n => less a n) k1 List.prefix_rfl q v r) (fun q v r => RVs.carry (fun a _ _ n => less a n) k1 List.prefix_rfl q v r)
theorem NewEs.two {K : PySem.W.Frag} {N : Addr → Prop} {ρ : List Addr} {Hv H H' : Hp} {x y : EV} {us : List V} (h : NewEs K N ρ Hv [x, y] us H H') : ∃ u w, us = [u, w] := by
  obtain ⟨u, ws, H1, rfl, _, w, ws2, H2, rfl, _, rfl, _⟩ := h
  exact ⟨u, w, rfl⟩
theorem setEs_len : ∀ {is : List Nat} {xs : List EV} {e e1 : Env}, setEs is xs e = some e1 → xs.length = is.length
  | [], [], _, _, _ => rfl
  | i :: is, x :: xs, e, e1, h => by
    unfold setEs at h
    split at h
    · rw [List.length_cons, List.length_cons, setEs_len h]
    · cases h
  | [], _ :: _, _, _, h => by cases h
  | _ :: _, [], _, _, h => by cases h
theorem NewEs.len {K : PySem.W.Frag} {N : Addr → Prop} {ρ : List Addr} {Hv : Hp} : ∀ {xs : List EV} {us : List V} {H H' : Hp}, NewEs K N ρ Hv xs us H H' → us.length = xs.length
  | [], _, _, _, h => by rw [h.1]; rfl
  | _ :: _, _, _, _, h => by
    obtain ⟨u, ws, H1, rfl, _, h2⟩ := h
    rw [List.length_cons, List.length_cons, NewEs.len h2]
/-- a, b = x, y, the names plain -/
theorem ms_par {i j : Nat} {x y : Str} {px py pt pos : Pos} {kt k2 pt2} (h : MNs X W [a, b] fs) (hc : X.calm = true) (hN : X.N.Nodup) (hi : X.N[i]? = some x) (hj : X.N[j]? = some y) (hij : i ≠ j)
    (hx : X.env.scope.names.lookup x = some .local) (hy : X.env.scope.names.lookup y = some .local)
    (hw : swappedStores [.Tuple [.Name x px, .Name y py] kt pt] (.Tuple [a, b] k2 pt2) X.env = pure (some [x, y]))
    (hs : swapsWithSole [.Tuple [.Name x px, .Name y py] kt pt] (.Tuple [a, b] k2 pt2) pos.line X.env = pure false := by rfl) :
    MS X W (.Assign [.Tuple [.Name x px, .Name y py] kt pt] (.Tuple [a, b] k2 pt2) pos) (sPar [i, j] fs) := by
  obtain ⟨t, p, q⟩ := h
  refine ⟨_, ps_par hc hN hi hj hij hx hy p hw hs, fun B ρ env st σ H D R h => ?_⟩
  refine q B ρ env st σ H _ R (ROk.mono (SOk.toS h) fun xs ρ1 st1 H1 E1 h1 us H2 hn => ?_)
  cases e : setEs [i, j] xs env with
  | none => rw [e] at h1; exact h1.elim
  | some env1 =>
    rw [e] at h1
    have hl : us.length = 2 := hn.len.trans (setEs_len e)
    match us, hl with
    | [u, w], _ => exact ⟨u, w, rfl, h1 ρ1 _ H2 (E1.rep.setNews e hn)⟩
/-- .. stored from the left -/
theorem ms_parU {i j : Nat} {x y : Str} {px py pt pos : Pos} {kt k2 pt2} (h : MNs X W [a, b] fs) (hc : X.calm = true) (hN : X.N.Nodup) (hi : X.N[i]? = some x) (hj : X.N[j]? = some y)
    (hx : Loc X.env.scope x) (hy : Loc X.env.scope y) (hfx : X.fn x = true ∨ X.env.scope.names.lookup x = some .local) (hfy : X.fn y = true ∨ X.env.scope.names.lookup y = some .local)
    (hw : swappedStores [.Tuple [.Name x px, .Name y py] kt pt] (.Tuple [a, b] k2 pt2) X.env = pure none)
    (hs : swapsWithSole [.Tuple [.Name x px, .Name y py] kt pt] (.Tuple [a, b] k2 pt2) pos.line X.env = pure false := by rfl)
    (h1 : (assignEach [.Tuple [.Name x px, .Name y py] kt pt] X.env).map (·.2) = [assign (.Tuple [.Name x px, .Name y py] kt pt) X.env] := by rfl)
    (h2 : (assignEach [.Name x px, .Name y py] X.env).map (·.2) = assign (.Name x px) X.env :: (assignEach [.Name y py] X.env).map (·.2) := by rfl)
    (h3 : (assignEach [.Name y py] X.env).map (·.2) = assign (.Name y py) X.env :: (assignEach [] X.env).map (·.2) := by rfl)
    (hst : (assignEach [.Name x px, .Name y py] X.env).findIdx? (·.1) = none := by rfl) (hn : (assignEach [.Name x px, .Name y py] X.env).length = 2 := by rfl) :
    MS X W (.Assign [.Tuple [.Name x px, .Name y py] kt pt] (.Tuple [a, b] k2 pt2) pos) (sPar [i, j] fs) := by
  obtain ⟨t, p, q⟩ := h
  refine ⟨_, ps_asg (pe_tup p) (pg_tup (n := 2) hc (pgs_cons (pg_name hN hi hx hfx) (pgs_cons (pg_name hN hj hy hfy) pgs_nil h3) h2) hn hst) hs hw h1, fun B ρ env st σ H D R h => ?_⟩
  refine q B ρ env st σ H _ R (ROk.mono (SOk.toS h) fun xs ρ1 st1 H1 E1 h1 us H2 hn => ?_)
  cases e : setEs [i, j] xs env with
  | none => rw [e] at h1; exact h1.elim
  | some env1 =>
    rw [e] at h1
    have hl : us.length = 2 := hn.len.trans (setEs_len e)
    match us, hl with
    | [u, w], _ =>
      refine ⟨by rw [← LINE_eq]; show 2 ≤ 16777216; decide, fun T nT => ⟨T, [u, w], rfl, SqT.of upd_same, rfl, u, [w], rfl, w, [], rfl, rfl, ?_⟩⟩
      have P := E1.rep.setNews e hn
      exact h1 ρ1 _ _ (P.trans (EPost.ext P.rep (.new nT)).post)
end
end PL
/-! PLm: slices; an item taken out of a list. -/
namespace PL
open PySem PySem.Spec L2
/-! ### a[lo:hi] -/
def cutF (l : List PV) (lo hi : Option Int) : List PV := (l.drop (HT.sIx l.length 0 lo)).take (HT.sIx l.length l.length hi - HT.sIx l.length 0 lo)
def oNone : EF (Option Int) := fun _ st => .ok none st
def oSome (f : EF PV) : EF (Option Int) := fun e st => (f e st).bind fun v st => match v with
  | .int i => .ok (some i) st
  | _ => .stuck
def slF : PV → Option Int → Option Int → Option PV
  | .tup l, lo, hi => some (.tup (cutF l lo hi))
  | .lst l, lo, hi => some (.lst (cutF l lo hi))
  | .scr l, lo, hi => some (.lst (cutF (l.map PV.int) lo hi))
  | _, _, _ => none
def eSl (f : EF PV) (lo hi : EF (Option Int)) : EF PV := fun e st => (f e st).bind fun v st => (lo e st).bind fun i st => (hi e st).bind fun j st => .of (slF v i j) st
def MO (X : Cx) (W : WX) (o : Option Expr) (f : EF (Option Int)) : Prop := ∃ t, PO X o t ∧ ∀ B ρ env st σ H Q, Rep X.K B ρ env st σ H →
  ROk X.K W B ρ env σ H (f env st) (fun k ρ' st' H' => Q k H') → t σ H Q
section
variable {X : Cx} {W : WX} {e : Expr} {lo hi : Option Expr} {f : EF PV} {fl fh : EF (Option Int)} {pos p2 : Pos}
theorem mo_none : MO X W none oNone := ⟨_, po_none, fun B ρ env st σ H Q R h => h ρ H (.refl R)⟩
theorem mo_some (h : ME X W e f) : MO X W (some e) (oSome f) := by
  obtain ⟨t, p, q⟩ := h
  refine ⟨_, po_some p, fun B ρ env st σ H Q R h => q B ρ env st σ H _ R (ROk.mono (ROk.bind h) fun v ρ1 st1 H1 E1 h1 u ru => ?_)⟩
  cases v with
  | int i => exact ⟨i, rv_int ru, h1 ρ1 H1 (.refl E1.rep)⟩
  | _ => exact h1.elim
theorem RVs.cut {K : PySem.W.Frag} {N : Addr → Prop} {ρ : List Addr} {H : Hp} {l : List PV} {xs : List V} (r : RVs K N ρ H l xs) (lo hi : Option Int) : RVs K N ρ H (cutF l lo hi) (cutV xs lo hi) := by
  unfold cutF cutV
  rw [r.len]
  exact (r.drop _).take _
theorem cutF_whole {l : List PV} {lo hi : Option Int} (h1 : HT.sIx l.length 0 lo = 0) (h2 : HT.sIx l.length l.length hi = l.length) : cutF l lo hi = l := by
  unfold cutF
  rw [h1, h2, List.drop_zero, Nat.sub_zero, List.take_length]
theorem m_slice (ha : MB X W e f) (hl : MO X W lo fl) (hh : MO X W hi fh) : ME X W (.Subscript e (.Slice lo hi none p2) pos) (eSl f fl fh) := by
  obtain ⟨ta, pa, qa⟩ := ha
  obtain ⟨tl, pl, ql⟩ := hl
  obtain ⟨th, ph, qh⟩ := hh
  refine ⟨_, pe_slice (SlR.or sl_tupA sl_list) pa pl ph, fun B ρ env st σ H Q R h => ?_⟩
  refine qa B ρ env st σ H _ R (ROk.mono (ROk.bind h) fun p ρ1 st1 H1 E1 h1 x rx => ?_)
  refine ql B ρ1 env st1 σ H1 _ E1.rep (ROk.mono (ROk.bind h1) fun i ρ2 st2 H2 E2 h2 => ?_)
  refine qh B ρ2 env st2 σ H2 _ E2.rep (ROk.mono (ROk.bind h2) fun j ρ3 st3 H3 E3 h3 => ?_)
  obtain ⟨z, e, hz⟩ := ROk.of E3.rep h3
  have E23 := E2.trans E3
  have rx2 := (RVl.on E23 E23.fr rx).1
  cases p with
  | tup l =>
    cases e
    obtain ⟨t, xs, rfl, g1, g2, g3⟩ := rvb_tup rx2
    have hl : (cutV xs i j).length ≤ LINE := Nat.le_trans (cutV_length xs i j) g2
    refine .inl ⟨t, xs, rfl, g1.sq, fun hw => ?_, fun _ p np => ?_⟩
    · rw [g3.len] at hw
      refine hz H3 Ext.refl _ (mk_tupK g1 g2 ?_)
      rw [cutF_whole hw.1 hw.2]
      exact g3
    · exact hz _ (.new np) _ (mk_tup (E3.rep.fresh np) upd_same hl (RVs.ext (.new np) (g3.cut i j)))
  | lst l =>
    cases e
    obtain ⟨t, xs, rfl, g1, g2, g3⟩ := rvb_lst rx2
    have hl : (cutV xs i j).length ≤ LINE := Nat.le_trans (cutV_length xs i j) g2
    exact .inr ⟨t, xs, rfl, SqL.of g1, fun p np => hz _ (.new np) _ (mk_lst (E3.rep.fresh np) upd_same hl (RVs.ext (.new np) (g3.cut i j)))⟩
  | scr l =>
    cases e
    obtain ⟨t, rfl, g1⟩ := rvb_scr rx2
    have hl : (cutV (l.map V.int) i j).length ≤ LINE := Nat.le_trans (cutV_length _ i j) (by rw [List.length_map]; exact g1.1)
    exact .inr ⟨t, _, rfl, g1.sq, fun p np => hz _ (.new np) _ (mk_lst (E3.rep.fresh np) upd_same hl (RVs.ext (.new np) ((RVs.ofInts l).cut i j)))⟩
  | _ => cases e
end
/-! ### x.remove(k), x's own list of ints -/
def sRem (i : Nat) (a : EF PV) : SF := fun e st => match e[i]? with
  | some (.own l) => (a e st).toS e fun v st => match v, intsOf l with
    | .int k, some ns => if ns.idxOf k < ns.length then .nx (e.set i (.own ((ns.eraseIdx (ns.idxOf k)).map PV.int))) st else .stuck
    | _, _ => .stuck
  | _ => .stuck
/-- x.append(y.pop(k)), x and y own lists -/
def popAt (l : List PV) (k : Int) : Option (PV × List PV) := match ixN l.length k with
  | some j => match l[j]? with
    | some y => some (y, l.eraseIdx j)
    | none => none
  | none => none
section
variable {X : Cx} {W : WX} {e : Expr} {fe : EF PV} {pos apos cpos pos' : Pos} {i : Nat} {x : Str}
end
end PL
/-! PLn: the rules, with their small conditions filled in. -/
namespace PL
variable {Zg : Prop}
open PySem PySem.Spec L2
def leF : PV → PV → Option PV := cmpF fun i j => decide (i ≤ j)
def gtF : PV → PV → Option PV := cmpF fun i j => decide (j < i)
def geF : PV → PV → Option PV := cmpF fun i j => decide (j ≤ i)
def ALen (g : EF (List PV)) (n : Nat) : Prop := ∀ en st l st', g en st = .ok l st' → l.length = n
theorem alen_nil : ALen aNil 0 := fun en st l st' h => by cases h; rfl
theorem alen_cons {f : EF PV} {g : EF (List PV)} {n : Nat} (h : ALen g n) : ALen (aCons f g) (n + 1) := fun en st l st' e => by
  have e : ((f en st).bind fun x st => (g en st).bind fun xs st => .ok (x :: xs) st) = .ok l st' := e
  cases hf : f en st with
  | stuck => rw [hf] at e; cases e
  | exc _ _ => rw [hf] at e; cases e
  | ok x st1 =>
    rw [hf] at e
    have e : ((g en st1).bind fun xs st => RE.ok (x :: xs) st) = .ok l st' := e
    cases hg : g en st1 with
    | stuck => rw [hg] at e; cases e
    | exc _ _ => rw [hg] at e; cases e
    | ok xs st2 =>
      rw [hg] at e
      cases e
      rw [List.length_cons, h _ _ _ _ hg]
section
variable {X : Cx} {W : WX} {a b c e : Expr} {es : List Expr} {fa fb fc f : EF PV} {g : EF (List PV)} {pos p : Pos}
theorem takes_F : Takes X WF := fun u s' ⟨_, _, _, _, _, _, _, _, _, _, _, _, _, _, _, _, z⟩ => z.elim
theorem gv (i : Nat) {x : Str} (hN : X.N[i]? = some x := by rfl) (hv : Vis X.env.scope x := by first | exact .inl rfl | exact .inr (.inl rfl) | exact .inr (.inr rfl)) (hd : (x == ("__debug__" : Str)) = false := by decide) (hcd : (x == ("__classdict__" : Str)) = false := by decide) : ME X W (.Name x pos) (eVar i) := m_var hN hv hd hcd
theorem go (i : Nat) {x : Str} (hN : X.N[i]? = some x := by rfl) (hv : Vis X.env.scope x := by first | exact .inl rfl | exact .inr (.inl rfl) | exact .inr (.inr rfl)) (hd : (x == ("__debug__" : Str)) = false := by decide) (hcd : (x == ("__classdict__" : Str)) = false := by decide) : MB X W (.Name x pos) (eOwn i) := mb_own hN hv hd hcd
theorem gI {x : Str} {i : Int} (hm : ∃ t, X.mg x = some (.int i t)) (hg : Gl X x := by rfl) (hd : (x == ("__debug__" : Str)) = false := by decide) : ME X W (.Name x pos) (eC (.int i)) := m_globI hg hm hd
theorem gS {x : Str} {i : Str} (hm : ∃ t, X.mg x = some (.str i t)) (hg : Gl X x := by rfl) (hd : (x == ("__debug__" : Str)) = false := by decide) : ME X W (.Name x pos) (eC (.str i)) := m_globS hg hm hd
theorem o_lt {k : Nat} (r : Room k X.A) : OpP X (compareOp .Lt) ltF := p_lt r.units0
theorem o_le : OpP X (compareOp .LtE) leF := p_le
theorem o_gt : OpP X (compareOp .Gt) gtF := p_gt
theorem o_eq {k : Nat} (r : Room k X.A) : OpP X (compareOp .Eq) eqF := p_eq r.units
theorem o_ne {k : Nat} (r : Room k X.A) : OpP X (compareOp .NotEq) neF := p_ne r.units
theorem g_cmp {op : CmpOp} {k : PV → PV → Option PV} (ho : OpP X (compareOp op) k) (ha : MB X W a fa) (hb : MB X W b fb) (h1 : op ≠ .In := by decide) (h2 : op ≠ .NotIn := by decide) : ME X W (.Compare a [op] [b] pos) (eOp k fa fb) := m_cmp ho ha hb (nomark b h1 h2)
theorem g_in {op : CmpOp} {k : PV → PV → Option PV} (ho : OpP X (compareOp op) k) (ha : MB X W a fa) (hb : MB X W b fb) (h1 : behindInMarks op b = false := by with_unfolding_all rfl) : ME X W (.Compare a [op] [b] pos) (eOp k fa fb) := m_cmp ho ha hb h1
theorem gt_cmp {op : CmpOp} {k : PV → PV → Option PV} (ho : OpP X (compareOp op) k) (ha : MB X W a fa) (hb : MB X W b fb) (h1 : op ≠ .In := by decide) (h2 : op ≠ .NotIn := by decide) : MT X W (.Compare a [op] [b] pos) (tV (eOp k fa fb)) := mt_cmp ho ha hb (nomark b h1 h2)
theorem gt_in {op : CmpOp} {k : PV → PV → Option PV} (ho : OpP X (compareOp op) k) (ha : MB X W a fa) (hb : MB X W b fb) (h1 : behindInMarks op b = false := by with_unfolding_all rfl) : MT X W (.Compare a [op] [b] pos) (tV (eOp k fa fb)) := mt_cmp ho ha hb h1
theorem g_ix (ha : MB X W a fa) (hb : ME X W b fb) (hs : PlainIx b := by exact fun _ _ => rfl) : ME X W (.Subscript a b pos) (eIx fa fb) := m_ixs ha hb hs
theorem g_call {k j : Nat} {x : Str} {ps : List Str} {F : Fn} (c : Cal Zg X.prog X.w X.K X.mg X.base k x ps F) (hr : Room j X.A) (hgd : Zg → X.A.guards = some []) (tk : Takes X W) (ha : MA X W (e :: es) g) (hlen : ALen g (e :: es).length) (hk : k ≤ j := by decide) (hn : (e :: es).length = ps.length := by rfl) (hg : Gl X x := by rfl)
    (hdb : (x == ("__debug__" : Str)) = false := by decide) (he : starEach (e :: es) X.env = (false, eval e X.env) :: starEach es X.env := by rfl) (hpl : (backTo pos (starEach es X.env)).any (·.1) = false := by rfl) : ME X W (.Call (.Name x p) (e :: es) [] pos) (eCall F g) := m_call (c.mono hk) hr hgd tk hg ha hn hlen hdb he hpl
theorem g_len (hm : X.mg "len" = none) (ha : MAb X W (e :: es) g) (hg : Gl X "len" := by rfl) (he : starEach (e :: es) X.env = (false, eval e X.env) :: starEach es X.env := by rfl) (hpl : (backTo pos (starEach es X.env)).any (·.1) = false := by rfl) : ME X W (.Call (.Name "len" p) (e :: es) [] pos) (eB lenF g) := m_callB c_len hg hm (by decide +kernel) ha (by decide) (by decide) he hpl
theorem g_all (hm : X.mg "all" = none) (ha : MAb X W (e :: es) g) (hc : X.calm = true := by rfl) (hg : Gl X "all" := by rfl) (he : starEach (e :: es) X.env = (false, eval e X.env) :: starEach es X.env := by rfl) (hpl : (backTo pos (starEach es X.env)).any (·.1) = false := by rfl) : ME X W (.Call (.Name "all" p) (e :: es) [] pos) (eB allF g) := m_callB (c_all hc) hg hm (by decide +kernel) ha (by decide) (by decide) he hpl
theorem g_any (hm : X.mg "any" = none) (ha : MAb X W (e :: es) g) (hc : X.calm = true := by rfl) (hg : Gl X "any" := by rfl) (he : starEach (e :: es) X.env = (false, eval e X.env) :: starEach es X.env := by rfl) (hpl : (backTo pos (starEach es X.env)).any (·.1) = false := by rfl) : ME X W (.Call (.Name "any" p) (e :: es) [] pos) (eB anyF g) := m_callB (c_any hc) hg hm (by decide +kernel) ha (by decide) (by decide) he hpl
theorem g_sum (hm : X.mg "sum" = none) (ha : MAb X W (e :: es) g) (hc : X.calm = true := by rfl) (hg : Gl X "sum" := by rfl) (he : starEach (e :: es) X.env = (false, eval e X.env) :: starEach es X.env := by rfl) (hpl : (backTo pos (starEach es X.env)).any (·.1) = false := by rfl) : ME X W (.Call (.Name "sum" p) (e :: es) [] pos) (eB sumF g) := m_callB (c_sum hc) hg hm (by decide +kernel) ha (by decide) (by decide) he hpl
theorem g_min (hm : X.mg "min" = none) (ha : MAb X W (e :: es) g) (hc : X.calm = true := by rfl) (hg : Gl X "min" := by rfl) (he : starEach (e :: es) X.env = (false, eval e X.env) :: starEach es X.env := by rfl) (hpl : (backTo pos (starEach es X.env)).any (·.1) = false := by rfl) : ME X W (.Call (.Name "min" p) (e :: es) [] pos) (eB minF g) := m_callB (c_min hc) hg hm (by decide +kernel) ha (by decide) (by decide) he hpl
theorem g_max (hm : X.mg "max" = none) (ha : MAb X W (e :: es) g) (hc : X.calm = true := by rfl) (hg : Gl X "max" := by rfl) (he : starEach (e :: es) X.env = (false, eval e X.env) :: starEach es X.env := by rfl) (hpl : (backTo pos (starEach es X.env)).any (·.1) = false := by rfl) : ME X W (.Call (.Name "max" p) (e :: es) [] pos) (eB maxF g) := m_callB (c_max hc) hg hm (by decide +kernel) ha (by decide) (by decide) he hpl
theorem g_repr {k : Nat} (r : Room k X.A) (hgd : X.A.guards = some []) (hm : X.mg "repr" = none) (ha : MAb X W (e :: es) g) (hg : Gl X "repr" := by rfl) (he : starEach (e :: es) X.env = (false, eval e X.env) :: starEach es X.env := by rfl) (hpl : (backTo pos (starEach es X.env)).any (·.1) = false := by rfl) : ME X W (.Call (.Name "repr" p) (e :: es) [] pos) (eB reprF g) := m_callB (c_repr hgd r.units) hg hm (by decide +kernel) ha (by decide) (by decide) he hpl
theorem g_tuple (hm : X.mg "tuple" = none) (ha : MAb X W (e :: es) g) (hg : Gl X "tuple" := by rfl) (he : starEach (e :: es) X.env = (false, eval e X.env) :: starEach es X.env := by rfl) (hpl : (backTo pos (starEach es X.env)).any (·.1) = false := by rfl) : ME X W (.Call (.Name "tuple" p) (e :: es) [] pos) (eB tupF g) := m_callTy c_tuple hg hm (by decide +kernel) ha (by decide) (by decide) he hpl
theorem g_list (hm : X.mg "list" = none) (ha : MAb X W (e :: es) g) (hg : Gl X "list" := by rfl) (he : starEach (e :: es) X.env = (false, eval e X.env) :: starEach es X.env := by rfl) (hpl : (backTo pos (starEach es X.env)).any (·.1) = false := by rfl) : ML X W (.Call (.Name "list" p) (e :: es) [] pos) (lB listF g) := ml_callTy c_list hg hm (by decide +kernel) ha (by decide) (by decide) he hpl
theorem g_isi (T : Ty) {n : Str} {p2 : Pos} (hm : X.mg "isinstance" = none) (hm2 : X.mg n = none) (ha : MB X W a fa) (hg : Gl X "isinstance" := by rfl) (hg2 : Gl X n := by rfl) (hv : bootBuiltins n = some (.type T.name) := by decide +kernel) (hn : n ≠ "__name__" := by decide) (hd : (n == ("__debug__" : Str)) = false := by decide)
    (h1 : starEach [a, .Name n p2] X.env = (false, eval a X.env) :: starEach [.Name n p2] X.env := by rfl) (h2 : starEach [.Name n p2] X.env = (false, eval (.Name n p2) X.env) :: starEach [] X.env := by rfl)
    (hpl : (backTo pos (starEach [.Name n p2] X.env)).any (·.1) = false := by rfl) : ME X W (.Call (.Name "isinstance" p) [a, .Name n p2] [] pos) (eUn (isiF T) fa) := m_isi ha hg hm hg2 hm2 hv hn hd h1 h2 hpl
end
/-! ### statements -/
section
variable {X : Cx} {W : WX} {s : Stmt} {rest body : List Stmt} {a b e tg iter c : Expr} {f g : SF} {fe : EF PV} {fl it : EF (List PV)} {fc : EF Bool} {bf : BF} {vs : List Nat} {pos pos' : Pos}
theorem g_set (i : Nat) {x : Str} (hN : X.N.Nodup) (h : ME X W e fe) (hi : X.N[i]? = some x := by rfl) (hx : Loc X.env.scope x := by first | exact .inl rfl | exact .inr rfl) (hs : swapsWith e (some (.Name x pos')) pos.line X.env = pure false := by rfl) (hf : X.fn x = true ∨ X.env.scope.names.lookup x = some .local := by first | exact .inr rfl | exact .inl rfl) :
    MS X W (.Assign [.Name x pos'] e pos) (sAsg (bName i) fe) := ms_set h hN hi hx hs hf
theorem g_setO (i : Nat) {x : Str} (hN : X.N.Nodup) (h : ML X W e fl) (hi : X.N[i]? = some x := by rfl) (hx : Loc X.env.scope x := by first | exact .inl rfl | exact .inr rfl) (hs : swapsWith e (some (.Name x pos')) pos.line X.env = pure false := by rfl) (hf : X.fn x = true ∨ X.env.scope.names.lookup x = some .local := by first | exact .inr rfl | exact .inl rfl) :
    MS X W (.Assign [.Name x pos'] e pos) (sAsgO i fl) := ms_setO h hN hi hx hs hf
theorem g_nm (i : Nat) {x : Str} (hN : X.N.Nodup) (hi : X.N[i]? = some x := by rfl) (hx : Loc X.env.scope x := by first | exact .inl rfl | exact .inr rfl) (hf : X.fn x = true ∨ X.env.scope.names.lookup x = some .local := by first | exact .inr rfl | exact .inl rfl) : MG X (.Name x pos) (bName i) [i] := mg_name hN hi hx hf
theorem g_asg (h : ME X W e fe) (hg : MG X tg bf vs) (hs : swapsWithSole [tg] e pos.line X.env = pure false := by rfl) (hw : swappedStores [tg] e X.env = pure none := by rfl)
    (h1 : (assignEach [tg] X.env).map (·.2) = [assign tg X.env] := by rfl) : MS X W (.Assign [tg] e pos) (sAsg bf fe) := ms_asg h hg hs hw h1
theorem g_app (i : Nat) {x : Str} {apos cpos : Pos} (h : ME X W e fe) (hN : X.N[i]? = some x := by rfl) (hv : Vis X.env.scope x := by first | exact .inl rfl | exact .inr (.inl rfl) | exact .inr (.inr rfl)) (hd : (x == ("__debug__" : Str)) = false := by decide) (hcd : (x == ("__classdict__" : Str)) = false := by decide)
    (hbase : attributeBase (.Name x pos') "append" X.env (eval (.Name x pos') X.env) = eval (.Name x pos') X.env := by rfl)
    (hfew : ((backTo cpos (starEach [e] X.env)).all (fun x => !x.1) && (backToKw cpos (keywordEach [] X.env)).all (fun x => x.1.isSome) && decide ([e].length + ([] : List Keyword).length + (if ([] : List Keyword).isEmpty then 0 else 1) < 30)) = true := by rfl)
    (hline : (apos.endLine == cpos.line) = true := by rfl) (hs : starEach [e] X.env = (false, eval e X.env) :: starEach [] X.env := by rfl) (hplain : (backTo cpos (starEach [] X.env)).any (·.1) = false := by rfl)
    (hsw : swapsWith (.Call (.Attribute (.Name x pos') "append" apos) [e] [] cpos) none pos.line X.env = pure false := by rfl) :
    MS X W (.Expr (.Call (.Attribute (.Name x pos') "append" apos) [e] [] cpos) pos) (sApp i fe) := ms_app h hN hv hd hcd hbase hfew hline hs hplain hsw
end
end PL
/-! PLp: how functions are reckoned out. -/
namespace PL
open PySem PySem.Spec L2
section
variable {α β : Type} {e : Env} {st : Sto}
@[simp] theorem bind_ok (a : α) (st : Sto) (f : α → Sto → RE β) : (RE.ok a st).bind f = f a st := rfl
@[simp] theorem bind_stuck (f : α → Sto → RE β) : (RE.stuck : RE α).bind f = .stuck := rfl
@[simp] theorem toS_ok (a : α) (st : Sto) (e : Env) (f : α → Sto → RS) : (RE.ok a st).toS e f = f a st := rfl
@[simp] theorem thn_nx (e : Env) (st : Sto) (f : Env → Sto → RS) : (RS.nx e st).thn f = f e st := rfl
@[simp] theorem thn_rt (v : PV) (st : Sto) (f : Env → Sto → RS) : (RS.rt v st).thn f = .rt v st := rfl
@[simp] theorem thn_bk (e : Env) (st : Sto) (f : Env → Sto → RS) : (RS.bk e st).thn f = .bk e st := rfl
@[simp] theorem thn_ct (e : Env) (st : Sto) (f : Env → Sto → RS) : (RS.ct e st).thn f = .ct e st := rfl
@[simp] theorem of_some (a : α) (st : Sto) : RE.of (some a) st = .ok a st := rfl
@[simp] theorem noE_okk (a : α) (st : Sto) : (RE.ok a st).noE = .ok a st := rfl
@[simp] theorem eC_e (v : PV) : eC v e st = .ok v st := rfl
@[simp] theorem eVar_e (i : Nat) : eVar i e st = (match e[i]? with | some (.val v) => RE.ok v st | _ => .stuck) := rfl
@[simp] theorem eOwn_e (i : Nat) : eOwn i e st = (match e[i]? with | some (.own l) => RE.ok (.lst l) st | _ => .stuck) := rfl
@[simp] theorem eOp_e (op : PV → PV → Option PV) (a b : EF PV) : eOp op a b e st = (a e st).bind fun x st => (b e st).bind fun y st => .of (op x y) st := rfl
@[simp] theorem eUn_e (op : PV → Option PV) (a : EF PV) : eUn op a e st = (a e st).bind fun x st => .of (op x) st := rfl
@[simp] theorem aNil_e : aNil e st = .ok [] st := rfl
@[simp] theorem aCons_e (a : EF PV) (r : EF (List PV)) : aCons a r e st = (a e st).bind fun x st => (r e st).bind fun xs st => .ok (x :: xs) st := rfl
@[simp] theorem eTup_e (a : EF (List PV)) : eTup a e st = (a e st).bind fun xs st => if xs.length ≤ LINE then .ok (.tup xs) st else .stuck := rfl
@[simp] theorem eLst_e (a : EF (List PV)) : eLst a e st = (a e st).bind fun xs st => .ok (.lst xs) st := rfl
@[simp] theorem lDisp_e (a : EF (List PV)) : lDisp a e st = (a e st).bind fun xs st => if xs.length ≤ LINE then .ok xs st else .stuck := rfl
@[simp] theorem eB_e (g : List PV → Option PV) (a : EF (List PV)) : eB g a e st = (a e st).bind fun xs st => .of (g xs) st := rfl
@[simp] theorem lB_e (g : List PV → Option (List PV)) (a : EF (List PV)) : lB g a e st = (a e st).bind fun xs st => .of (g xs) st := rfl
@[simp] theorem eCall_e (F : Fn) (a : EF (List PV)) : eCall F a e st = (a e st).bind fun xs st => F xs st := rfl
@[simp] theorem eIf_e (c : EF Bool) (a b : EF PV) : eIf c a b e st = (c e st).bind fun k st => if k = true then a e st else b e st := rfl
@[simp] theorem eAnd_e (a b : EF PV) : eAnd a b e st = (a e st).bind fun x st => match x with | .bl true => b e st | .bl false => .ok (.bl false) st | _ => .stuck := rfl
@[simp] theorem eOr_e (a b : EF PV) : eOr a b e st = (a e st).bind fun x st => match x with | .bl true => .ok (.bl true) st | .bl false => b e st | _ => .stuck := rfl
@[simp] theorem eNot_e (a : EF PV) : eNot a e st = (a e st).bind fun x st => match x with | .bl k => .ok (.bl (!k)) st | _ => .stuck := rfl
@[simp] theorem eChain_e (op op' : PV → PV → Option PV) (a b c : EF PV) : eChain op op' a b c e st = (a e st).bind fun x st => (b e st).bind fun y st => match op x y with | some (.bl true) => (c e st).bind fun z st => .of (op' y z) st | some (.bl false) => .ok (.bl false) st | _ => .stuck := rfl
@[simp] theorem tV_e (a : EF PV) : tV a e st = (a e st).bind fun x st => match x with | .bl k => .ok k st | _ => .stuck := rfl
@[simp] theorem tAndF_e (a b : EF Bool) : tAndF a b e st = (a e st).bind fun k st => if k = true then b e st else .ok false st := rfl
@[simp] theorem tOrF_e (a b : EF Bool) : tOrF a b e st = (a e st).bind fun k st => if k = true then .ok true st else b e st := rfl
@[simp] theorem tNotF_e (a : EF Bool) : tNotF a e st = (a e st).bind fun k st => .ok (!k) st := rfl
@[simp] theorem tYesF_e : tYesF e st = .ok true st := rfl
@[simp] theorem bName_e (i : Nat) (v : PV) : bName i v e = if i < e.length then some (e.set i (.val v)) else none := rfl
@[simp] theorem bTup_e (bs : List BF) (l : List PV) : bTup bs (.tup l) e = bSeq bs l e := rfl
@[simp] theorem bSeq_nil : bSeq [] [] e = some e := rfl
@[simp] theorem bSeq_cons (b : BF) (bs : List BF) (v : PV) (vs : List PV) : bSeq (b :: bs) (v :: vs) e = (match b v e with | some e1 => bSeq bs vs e1 | none => none) := rfl
@[simp] theorem sNil_e : sNil e st = .nx e st := rfl
@[simp] theorem sSeq_e (a b : SF) : sSeq a b e st = (a e st).thn b := rfl
@[simp] theorem sAsg_e (b : BF) (a : EF PV) : sAsg b a e st = (a e st).toS e fun v st => match b v e with | some e1 => .nx e1 st | none => .stuck := rfl
@[simp] theorem sAsgO_e (i : Nat) (a : EF (List PV)) : sAsgO i a e st = (a e st).toS e fun l st => if i < e.length then .nx (e.set i (.own l)) st else .stuck := rfl
@[simp] theorem sDrop_e (a : EF PV) : sDrop a e st = (a e st).toS e fun _ st => .nx e st := rfl
@[simp] theorem sRet_e (a : EF PV) : sRet a e st = (a e st).toS e fun v st => .rt v st := rfl
@[simp] theorem sRetN_e : sRetN e st = .rt .non st := rfl
@[simp] theorem sRetG_e (a : EF (List PV)) : sRetG a e st = (a e st).toS e fun l st => .rt (.gl st.length) (st ++ [.lst l]) := rfl
@[simp] theorem sRetO_e (i : Nat) : sRetO i e st = (match e[i]? with | some (.own l) => RS.rt (.lst l) st | _ => .stuck) := rfl
@[simp] theorem sIf_e (c : EF Bool) (a b : SF) : sIf c a b e st = (c e st).toS e fun k st => if k = true then a e st else b e st := rfl
@[simp] theorem sFrz_e (i : Nat) : sFrz i e st = (match e[i]? with | some (.own l) => RS.nx (e.set i (.val (.lst l))) st | _ => .nx e st) := rfl
@[simp] theorem sApp_e (i : Nat) (a : EF PV) : sApp i a e st = (match e[i]? with | some (.own l) => (a e st).toS e fun v st => if l.length < LINE then .nx (e.set i (.own (l ++ [v]))) st else .stuck | _ => .stuck) := rfl
@[simp] theorem sExt_e (i : Nat) (a : EF (List PV)) : sExt i a e st = (match e[i]? with | some (.own l) => (a e st).toS e fun m st => if l.length + m.length ≤ LINE then .nx (e.set i (.own (l ++ m))) st else .stuck | _ => .stuck) := rfl
@[simp] theorem sRem_e (i : Nat) (a : EF PV) : sRem i a e st = (match e[i]? with | some (.own l) => (a e st).toS e fun v st => (match v, intsOf l with | .int k, some ns => if ns.idxOf k < ns.length then .nx (e.set i (.own ((ns.eraseIdx (ns.idxOf k)).map PV.int))) st else .stuck | _, _ => .stuck) | _ => .stuck) := rfl
@[simp] theorem sFor_e (it : EF (List PV)) (b : BF) (t : SF) : sFor it b t e st = (it e st).toS e fun xs st => forLoop b t xs e st := rfl
@[simp] theorem sWhile_e (n : Nat) (c : EF Bool) (t : SF) : sWhile n c t e st = whileLoop c t n e st := rfl
@[simp] theorem lLc_e (it : EF (List PV)) (b : BF) (vs : List Nat) (c : EF Bool) (t : EF PV) : lLc it b vs c t e st = (it e st).bind fun xs st => lcLoop b c t (wipeE e vs) xs st := rfl
@[simp] theorem wipeE_nil : wipeE e [] = e := rfl
@[simp] theorem wipeE_cons (v : Nat) (vs : List Nat) : wipeE e (v :: vs) = (wipeE e vs).set v .non := rfl
@[simp] theorem sPar_e (is : List Nat) (f : EF (List EV)) : sPar is f e st = (f e st).toS e fun xs st => match setEs is xs e with | some e1 => .nx e1 st | none => .stuck := rfl
@[simp] theorem nNil_e : nNil e st = .ok [] st := rfl
@[simp] theorem nCons_e (f : EF EV) (r : EF (List EV)) : nCons f r e st = (f e st).bind fun x st => (r e st).bind fun xs st => .ok (x :: xs) st := rfl
@[simp] theorem eVal_e (f : EF PV) : eVal f e st = (f e st).bind fun v st => .ok (.val v) st := rfl
@[simp] theorem eNew_e (f : EF (List PV)) : eNew f e st = (f e st).bind fun v st => .ok (.own v) st := rfl
@[simp] theorem setEs_nil : setEs [] [] e = some e := rfl
@[simp] theorem setEs_cons (i : Nat) (is : List Nat) (x : EV) (xs : List EV) : setEs (i :: is) (x :: xs) e = if i < e.length then setEs is xs (e.set i x) else none := rfl
@[simp] theorem sSetG_e (a k v : EF PV) : sSetG a k v e st = (v e st).toS e fun v st => (a e st).toS e fun a st => (k e st).toS e fun k st => match a, k with
  | .gl n, .int i => match st[n]? with
    | some (.lst l) => match ixN l.length i with
      | some j => .nx e (st.set n (.lst (l.set j v)))
      | none => .stuck
    | _ => .stuck
  | _, _ => .stuck := rfl
@[simp] theorem eIx_e (a k : EF PV) : eIx a k e st = (a e st).bind fun a st => (k e st).bind fun k st => match k with | .int i => .of (ixF st a i) st | _ => .stuck := rfl
@[simp] theorem eSl_e (f : EF PV) (lo hi : EF (Option Int)) : eSl f lo hi e st = (f e st).bind fun v st => (lo e st).bind fun i st => (hi e st).bind fun j st => .of (slF v i j) st := rfl
@[simp] theorem oNone_e : oNone e st = .ok none st := rfl
@[simp] theorem oSome_e (f : EF PV) : oSome f e st = (f e st).bind fun v st => match v with | .int i => .ok (some i) st | _ => .stuck := rfl
@[simp] theorem iSeq_e (f : EF PV) : iSeq f e st = (f e st).bind fun v st => match v with | .tup l => .ok l st | .tud l => .ok l st | .lst l => .ok l st | _ => .stuck := rfl
@[simp] theorem iRng1_e (g : EF (List PV)) : iRng1 g e st = (g e st).bind fun vs st => match int1 vs with | some j => if -LINE ≤ j ∧ j ≤ LINE then .ok (rangeF 0 j.toNat) st else .stuck | none => .stuck := rfl
@[simp] theorem int1_e (j : Int) : int1 [.int j] = some j := rfl
@[simp] theorem rngL_e (f : EF PV) : rngL f e st = (f e st).bind fun v st => match v with | .int n => if -LINE ≤ n ∧ n ≤ LINE then .ok (rangeF 0 n.toNat) st else .stuck | _ => .stuck := rfl
@[simp] theorem iEnum1_e (g : EF (List PV)) : iEnum1 g e st = (g e st).bind fun vs st => match vs with | [.tup l] => .ok (enumF 0 l) st | [.lst l] => .ok (enumF 0 l) st | _ => .stuck := rfl
@[simp] theorem iZip2_e (g : EF (List PV)) : iZip2 g e st = (g e st).bind fun vs st => match vs with | [.tup l, .tup m] => .ok (zipF l m) st | [.lst l, .lst m] => .ok (zipF l m) st | _ => .stuck := rfl
@[simp] theorem lenF_tup (l : List PV) : lenF [.tup l] = some (.int l.length) := rfl
@[simp] theorem lenF_lst (l : List PV) : lenF [.lst l] = some (.int l.length) := rfl
@[simp] theorem ixF_tup (st : Sto) (l : List PV) (i : Int) : ixF st (.tup l) i = atI l i := rfl
@[simp] theorem ixF_lst (st : Sto) (l : List PV) (i : Int) : ixF st (.lst l) i = atI l i := rfl
@[simp] theorem ixF_gl (st : Sto) (n : Nat) (i : Int) : ixF st (.gl n) i = (match st[n]? with | some (.lst l) => atI l i | _ => none) := rfl
@[simp] theorem addF_int (i j : Int) : addF (.int i) (.int j) = some (.int (i + j)) := rfl
@[simp] theorem subF_int (i j : Int) : subF (.int i) (.int j) = some (.int (i - j)) := rfl
@[simp] theorem ltF_int (i j : Int) : ltF (.int i) (.int j) = some (.bl (decide (i < j))) := rfl
@[simp] theorem leF_int (i j : Int) : leF (.int i) (.int j) = some (.bl (decide (i ≤ j))) := rfl
@[simp] theorem gtF_int (i j : Int) : gtF (.int i) (.int j) = some (.bl (decide (j < i))) := rfl
@[simp] theorem geF_int (i j : Int) : geF (.int i) (.int j) = some (.bl (decide (j ≤ i))) := rfl
theorem eqv_int (i j : Int) : PyData.eqv (.int i) (.int j) = decide (i = j) := by
  first
    | rfl
    | simp [PyData.eqv]
@[simp] theorem eqF_int (i j : Int) : eqF (.int i) (.int j) = some (.bl (decide (i = j))) := by
  show (if SeqAt.shaped (.int i) = true ∧ SeqAt.shaped (.int j) = true then some (PV.bl (PyData.eqv (.int i) (.int j))) else none) = _
  rw [if_pos ⟨rfl, rfl⟩, eqv_int]
theorem mulF_r {i j : Int} (h1 : -(2 ^ 64) < j) (h2 : j < 2 ^ 64) : mulF (.int i) (.int j) = some (.int (i * j)) := by
  unfold mulF mulB
  dsimp only
  rw [if_pos (decide_eq_true (.inr ⟨h1, h2⟩))]
theorem mulF_l {i j : Int} (h1 : -(2 ^ 64) < i) (h2 : i < 2 ^ 64) : mulF (.int i) (.int j) = some (.int (i * j)) := by
  unfold mulF mulB
  dsimp only
  rw [if_pos (decide_eq_true (.inl ⟨h1, h2⟩))]
theorem modF_ok {i j : Int} (h : 0 < j) : modF (.int i) (.int j) = some (.int (i % j)) := by
  unfold modF
  dsimp only
  rw [if_pos h]
theorem divF_ok {i j : Int} (h : 0 < j) (h2 : j < 1073741824) : divF (.int i) (.int j) = some (.int (i / j)) := by
  unfold divF
  dsimp only
  rw [if_pos ⟨h, h2⟩]
theorem atI_nat {α : Type} {l : List α} {i : Nat} (h : i < l.length) : atI l (i : Int) = some l[i] := by
  unfold atI ixN
  simp [h]
theorem rangeF_len (lo : Int) (n : Nat) : (rangeF lo n).length = n := by unfold rangeF; rw [List.length_map, List.length_range]
end
/-! ### repr of small values -/
mutual
def smB : PV → Bool
  | .non => true
  | .bl _ => true
  | .int i => decide (-999999999999 ≤ i ∧ i ≤ 999999999999)
  | .tup l => smBs l
  | .lst l => smBs l
  | .str y => PyData.strOk y
  | .scr _ => false
  | .gl _ => false
  | .ins _ _ _ => false
  | .cls _ => false
  | .tud _ => false
  | .exn _ _ _ _ _ => false
def smBs : List PV → Bool
  | [] => true
  | p :: ps => smB p && smBs ps
end
mutual
def wtN : PV → Nat
  | .int _ => 40
  | .str y => y.cps.size
  | .tup l => wtNs l
  | .lst l => wtNs l
  | _ => 0
def wtNs : List PV → Nat
  | [] => 0
  | p :: ps => wtN p + 1 + wtNs ps
end
mutual
def dpN : PV → Nat
  | .tup l => dpNs l + 1
  | .lst l => dpNs l + 1
  | _ => 0
def dpNs : List PV → Nat
  | [] => 0
  | p :: ps => max (dpN p) (dpNs ps)
end
theorem log_le {i : Int} (h : -999999999999 ≤ i ∧ i ≤ 999999999999) (h0 : i ≠ 0) : i.natAbs.log2 + 1 ≤ 40 := by
  have : i.natAbs < 2 ^ 40 := by omega
  have := (Nat.log2_lt (by omega)).mpr this
  omega
mutual
theorem sm_data : ∀ (p : PV), smB p = true → ∃ d, toD p = some d ∧ d.canLay0 = true ∧ d.intsShort 13 = true ∧ d.showable = true ∧ d.hasDict = false ∧ d.depth = dpN p ∧ d.weight ≤ wtN p
  | .non, _ => ⟨.none, by unfold toD; rfl, rfl, rfl, rfl, rfl, rfl, Nat.le_refl _⟩
  | .bl b, _ => ⟨.bool b, by unfold toD; rfl, rfl, rfl, rfl, rfl, rfl, Nat.le_refl _⟩
  | .int i, h => by
    have h : decide (-999999999999 ≤ i ∧ i ≤ 999999999999) = true := by unfold smB at h; exact h
    have h := of_decide_eq_true h
    refine ⟨.int i, by unfold toD; rfl, rfl, ?_, ?_, rfl, rfl, ?_⟩
    · exact decide_eq_true (PySem.PyData.shown_int_le2 h.1 h.2)
    · refine decide_eq_true ?_
      by_cases h0 : i = 0
      · subst h0
        decide
      · have := log_le h h0
        omega
    · show (if i == 0 then 0 else i.natAbs.log2 + 1) ≤ 40
      by_cases h0 : i = 0
      · subst h0
        decide
      · have := log_le h h0
        rw [if_neg (by simpa using h0)]
        omega
  | .tup l, h => by
    have h : smBs l = true := by unfold smB at h; exact h
    obtain ⟨ds, e, h1, h2, h3, h4, h5, h6⟩ := sm_datas l h
    exact ⟨.tuple ds, by unfold toD; rw [e]; rfl, h1, h2, h3, h4, by unfold dpN; rw [← h5]; rfl, by unfold wtN; exact h6⟩
  | .lst l, h => by
    have h : smBs l = true := by unfold smB at h; exact h
    obtain ⟨ds, e, h1, h2, h3, h4, h5, h6⟩ := sm_datas l h
    exact ⟨.list ds, by unfold toD; rw [e]; rfl, h1, h2, h3, h4, by unfold dpN; rw [← h5]; rfl, by unfold wtN; exact h6⟩
  | .str y, h => ⟨.str y, by unfold toD; rfl, by unfold smB at h; exact h, rfl, rfl, rfl, rfl, by unfold wtN; exact Nat.le_refl _⟩
  | .scr _, h => by unfold smB at h; cases h
  | .gl _, h => by unfold smB at h; cases h
  | .ins _ _ _, h => by unfold smB at h; cases h
  | .cls _, h => by unfold smB at h; cases h
  | .tud _, h => by unfold smB at h; cases h
  | .exn _ _ _ _ _, h => by unfold smB at h; cases h
theorem sm_datas : ∀ (l : List PV), smBs l = true → ∃ ds, toDs l = some ds ∧ PyData.canLayAll0 ds = true ∧ PyData.intsShortAll 13 ds = true ∧ PyData.showableAll ds = true ∧ PyData.hasDictAll ds = false ∧ PyData.depthAll ds = dpNs l ∧ PyData.weightAll ds ≤ wtNs l
  | [], _ => ⟨[], by unfold toDs; rfl, rfl, rfl, rfl, rfl, rfl, Nat.le_refl _⟩
  | p :: ps, h => by
    have h : (smB p && smBs ps) = true := by unfold smBs at h; exact h
    rw [Bool.and_eq_true] at h
    obtain ⟨d, e, h1, h2, h3, h4, h5, h6⟩ := sm_data p h.1
    obtain ⟨ds, e', k1, k2, k3, k4, k5, k6⟩ := sm_datas ps h.2
    refine ⟨d :: ds, by unfold toDs; rw [e, e'], ?_, ?_, ?_, ?_, ?_, ?_⟩
    · show (d.canLay0 && PyData.canLayAll0 ds) = true
      rw [h1, k1]; rfl
    · show (d.intsShort 13 && PyData.intsShortAll 13 ds) = true
      rw [h2, k2]; rfl
    · show (d.showable && PyData.showableAll ds) = true
      rw [h3, k3]; rfl
    · show (d.hasDict || PyData.hasDictAll ds) = false
      rw [h4, k4]; rfl
    · show max d.depth (PyData.depthAll ds) = dpNs (p :: ps)
      unfold dpNs
      rw [h5, k5]
    · show d.weight + 1 + PyData.weightAll ds ≤ wtNs (p :: ps)
      unfold wtNs
      omega
end
theorem repr_sm {p : PV} (h1 : smB p = true) (h2 : dpN p ≤ 30) (h3 : wtN p ≤ 1048576) : ∃ x, reprF [p] = some (.str x) := by
  obtain ⟨d, e, k1, k2, k3, k4, k5, k6⟩ := sm_data p h1
  have hs := PyProof.Rows.shown_le13 (d := d) (by
    show (PyData.canLay0 d && decide (PyData.depth d ≤ 64) && decide (PyData.weight d ≤ 2 ^ 20)) = true
    simp only [Bool.and_eq_true, decide_eq_true_eq]
    exact ⟨⟨k1, by omega⟩, by omega⟩) k2
  refine ⟨d.shown, ?_⟩
  unfold reprF
  dsimp only
  rw [e]
  dsimp only
  rw [if_pos ⟨k3, k4, by show _ ≤ 16777216; omega, by omega⟩]
theorem for_inv {b : BF} {t : SF} (I : List PV → Env → Sto → Prop) (step : ∀ x xs e st, I (x :: xs) e st → ∃ e1 e2 st2, b x e = some e1 ∧ t e1 st = .nx e2 st2 ∧ I xs e2 st2) :
    ∀ (xs : List PV) (e : Env) (st : Sto), I xs e st → ∃ e' st', forLoop b t xs e st = .nx e' st' ∧ I [] e' st'
  | [], e, st, h => ⟨e, st, rfl, h⟩
  | x :: xs, e, st, h => by
    obtain ⟨e1, e2, st2, h1, h2, h3⟩ := step x xs e st h
    obtain ⟨e', st', h4, h5⟩ := for_inv I step xs e2 st2 h3
    refine ⟨e', st', ?_, h5⟩
    unfold forLoop
    rw [h1]
    dsimp only
    rw [h2]
    exact h4
/-- a comprehension whose block changes nothing of the store -/
theorem lc_map {b : BF} {c : EF Bool} {t : EF PV} {e : Env} {st : Sto} {α : Type} (v : α → PV) (p : α → Bool) (g : α → PV) :
    ∀ (l : List α), (∀ x ∈ l, ∃ e1, b (v x) e = some e1 ∧ c e1 st = .ok (p x) st ∧ (p x = true → t e1 st = .ok (g x) st)) → lcLoop b c t e (l.map v) st = .ok ((l.filter p).map g) st
  | [], _ => rfl
  | x :: l, h => by
    obtain ⟨e1, h1, h2, h3⟩ := h x (List.mem_cons_self ..)
    have ih := lc_map v p g l fun y hy => h y (List.mem_cons_of_mem _ hy)
    rw [List.map_cons]
    unfold lcLoop
    rw [h1]
    dsimp only
    rw [h2]
    cases hp : p x with
    | false =>
      rw [List.filter_cons_of_neg (by rw [hp]; exact Bool.false_ne_true)]
      simpa using ih
    | true =>
      rw [List.filter_cons_of_pos hp, List.map_cons]
      simp only [noE_okk, bind_ok, if_true, h3 hp, ih]
end PL
/-! PLq: enumerate over a zip of two tuples: the zip's pairs are held by the enumerate's, so they are made anew. -/
namespace PL
open PySem PySem.Spec L2
section
variable {prog : Program} {w : World} {A : Around} {E : Value → Shared → Prop} {s : Shared}
variable {z TI TO i1 i2 l1 l2 : Addr} {k1 k2 : Nat} {xs ys : Array Value} {x y a b own : Value} {k : Bool}
/-! ### an enumerate over it -/
end
/-! ### enumerate(zip(a, b)) is made -/
/-! ### its turns -/
/-! ### as a function -/
def iEnumZip (g : EF (List PV)) : EF (List PV) := fun e st => (g e st).bind fun vs st => match vs with
  | [.tup l, .tup m] => .ok (enumF 0 (zipF l m)) st
  | _ => .stuck
end PL
/-! PLr: sorted of a tuple of ints; an item popped and appended. -/
namespace PL
open PySem PySem.Spec L2
section
open PyProof.Rows SrtO
variable {prog : Program} {w : World} {A : Around} {E : Value → Shared → Prop} {s : Shared}
theorem collect_tupG {l : Addr} {vs : List Value} {Q : List Value → Shared → Prop} (hl : s.heap.IsTuple l vs.toArray) (hz : vs.length ≤ sizeLine)
    (h : Q vs { s with heap := (s.heap.push (seqObj "list" #[] 0)).update s.heap.objs.size (Obj.mapSeq (· ++ vs.toArray)) }) : wpAny (model prog w) A (collect (.ref l)) Q E s := by
  obtain ⟨o, ho, hc, n, hd⟩ := id hl
  unfold collect
  refine wpAny_bind (wpAny_runValue (codeAny_builtin entry_proto_collect' ?_))
  refine (show wpAny (model prog w) _ (newList [] >>= fun v => again (.builtin "list.__iadd__" ⟨[v, .ref l], []⟩)) _ _ s from wpAny_bind (wpAny_newList (wpAny_pure ⟨Code.quiet_builtin _ (by decide +kernel), codeAny_builtin entry_list_iadd' ?_⟩)))
  refine (show wpAny (model prog w) _ (Builtin.List.listExtendWith (.ref s.heap.objs.size) (.ref l) (.ref s.heap.objs.size)) _ _ { s with heap := s.heap.push (seqObj "list" #[] 0) } from ?_)
  unfold Builtin.List.listExtendWith
  have ho2 : (s.heap.push (seqObj "list" #[] 0)).get? l = some o := Heap.get?_push_of_some _ ho
  refine wpAny_bind (wpAny_typeOf (T := "tuple") ⟨o, ho2, hc⟩ ?_)
  rw [if_pos (by simp)]
  refine wpAny_bind (listItems_at ho2 hd (wpAny_bind (listItems_at (xs := #[]) (n := 0) (Heap.get?_push_size _ rfl) rfl ?_)))
  rw [if_neg (by simp)]
  refine wpAny_bind (listUpdate_at (xs := #[]) (n := 0) (Heap.get?_push_size _ rfl) rfl ?_ (Nat.zero_le _) (by show (#[] ++ vs.toArray).size ≤ sizeLine + 1; simp only [Array.size_append, List.size_toArray, List.length_nil]; omega))
  refine wpAny_pure (wpAny_bind (wpAny_load (get?_update_seq (Heap.get?_push_size _ rfl) _) ?_))
  refine (show wpAny (model prog w) A (pure ((#[] : Array Value) ++ vs.toArray).toList) Q E _ from ?_)
  rw [show ((#[] : Array Value) ++ vs.toArray).toList = vs by simp]
  exact wpAny_pure h
theorem sorted_tup {l : Addr} {vs : List Value} {ltv : Value → Value → Bool} {Q : Value → Shared → Prop} (O : Swo ltv) (hl : s.heap.IsTuple l vs.toArray) (hz : vs.length ≤ sizeLine)
    (hS : 2 ≤ vs.length → ∀ (g : Heap) (a : Addr), g.get? a = some (seqObj "list" vs.toArray 0) → (∀ b o, s.heap.get? b = some o → b ≠ a ∧ g.get? b = some o) → SortableO prog w A.in1.in1 { s with heap := g } a vs ltv)
    (h : ∀ out : List Value, Srtd ltv out → Stb ltv out vs → Q (.ref (s.heap.objs.size + 1)) { s with heap := sortedAll s.heap vs out.toArray }) : wpAny (model prog w) A (call (.builtin "sorted") [.ref l]) Q E s := by
  refine Calls.call_function_entry kind_sorted plain_sorted entry_sorted (args_sorted1 _) ?_
  unfold Builtin.«sorted»
  refine wpAny_bind (m := checkCount "sorted" 1 1 _) (wpAny_pure (wpAny_bind (collect_tupG hl hz (wpAny_bind (wpAny_newList ?_ hz)))))
  have es : ((s.heap.push (seqObj "list" #[] 0)).update s.heap.objs.size (Obj.mapSeq (· ++ vs.toArray))).objs.size = s.heap.objs.size + 1 := by rw [Heap.size_update, size_push']
  generalize eg : ((s.heap.push (seqObj "list" #[] 0)).update s.heap.objs.size (Obj.mapSeq (· ++ vs.toArray))) = g0 at es
  have oL : (g0.push (seqObj "list" vs.toArray 0)).get? (s.heap.objs.size + 1) = some (seqObj "list" vs.toArray 0) := by rw [← es]; exact Heap.get?_push_size _ rfl
  have keep : ∀ b o, s.heap.get? b = some o → b ≠ s.heap.objs.size + 1 ∧ (g0.push (seqObj "list" vs.toArray 0)).get? b = some o := fun b o q => by
    have lt : b < s.heap.objs.size := Heap.lt_size q
    refine ⟨Nat.ne_of_lt (Nat.lt_succ_of_lt lt), Heap.get?_push_of_some _ ?_⟩
    rw [← eg, Heap.get?_update_ne _ _ _ _ (Nat.ne_of_lt lt)]
    exact Heap.get?_push_of_some _ q
  refine (show wpAny _ _ _ _ _ { s with heap := g0.push (seqObj "list" vs.toArray 0) } from ?_)
  rw [es]
  refine wpAny_bind (wpAny_holding (wpAny_call_entry slot_list_sort ⟨_, oL, rfl⟩ entry_list_sort (list_sort_ord O oL hz (fun h2 => hS h2 _ _ oL keep) fun out hs hb => ⟨_, rfl, ?_⟩) (args_list_sort _)))
  have q := h out hs hb
  unfold sortedAll at q
  rw [eg] at q
  exact wpAny_pure ⟨_, rfl, q⟩
end
/-! ### ints in their order -/
def insI (x : Int) : List Int → List Int
  | [] => [x]
  | y :: l => if x ≤ y then x :: y :: l else y :: insI x l
def isort : List Int → List Int
  | [] => []
  | x :: l => insI x (isort l)
theorem insI_perm (x : Int) : ∀ l, (insI x l).Perm (x :: l)
  | [] => .refl _
  | y :: l => by
    unfold insI
    split
    · exact .refl _
    · exact ((insI_perm x l).cons y).trans (.swap x y l)
theorem isort_perm : ∀ l, (isort l).Perm l
  | [] => .refl _
  | x :: l => (insI_perm x (isort l)).trans ((isort_perm l).cons x)
theorem insI_sorted (x : Int) : ∀ l, l.Pairwise (· ≤ ·) → (insI x l).Pairwise (· ≤ ·)
  | [], _ => by unfold insI; simp
  | y :: l, h => by
    unfold insI
    obtain ⟨h1, h2⟩ := List.pairwise_cons.mp h
    split
    · rename_i hxy
      refine List.pairwise_cons.mpr ⟨fun z hz => ?_, h⟩
      rcases List.mem_cons.mp hz with e | e
      · rw [e]; exact hxy
      · exact Int.le_trans hxy (h1 z e)
    · rename_i hxy
      refine List.pairwise_cons.mpr ⟨fun z hz => ?_, insI_sorted x l h2⟩
      rcases List.mem_cons.mp ((insI_perm x l).subset hz) with e | e
      · rw [e]; omega
      · exact h1 z e
theorem isort_sorted : ∀ l, (isort l).Pairwise (· ≤ ·)
  | [] => .nil
  | x :: l => insI_sorted x _ (isort_sorted l)
theorem sorted_unique : ∀ {l m : List Int}, l.Perm m → l.Pairwise (· ≤ ·) → m.Pairwise (· ≤ ·) → l = m
  | [], m, p, _, _ => (List.Perm.nil_eq p)
  | x :: l, [], p, _, _ => by have := p.length_eq; simp at this
  | x :: l, y :: m, p, h, k => by
    obtain ⟨h1, h2⟩ := List.pairwise_cons.mp h
    obtain ⟨k1, k2⟩ := List.pairwise_cons.mp k
    have e : x = y := by
      have a : x ≤ y := by
        rcases List.mem_cons.mp (p.symm.subset (List.mem_cons_self ..)) with z | z
        · omega
        · exact h1 y z
      have b : y ≤ x := by
        rcases List.mem_cons.mp (p.subset (List.mem_cons_self ..)) with z | z
        · omega
        · exact k1 x z
      omega
    subst e
    rw [sorted_unique (List.Perm.cons_inv p) h2 k2]
theorem isort_of {l m : List Int} (p : l.Perm m) (h : l.Pairwise (· ≤ ·)) : l = isort m := sorted_unique (p.trans (isort_perm m).symm) h (isort_sorted m)
def sortedF : List PV → Option (List PV)
  | [.tup l] => (intsOf l).map fun ns => (isort ns).map .int
  | [.lst l] => (intsOf l).map fun ns => (isort ns).map .int
  | _ => none
def rSortTup (K : PySem.W.Frag) : List V → Hp → VK → Prop := fun vs H Q => ∃ (a : Addr) (ns : List Int), vs = [V.ref a] ∧ SqT K H a (ns.map V.int) ∧
  ∀ (ms : List Int) (p : Addr), ms.Perm ns → ms.Pairwise (· ≤ ·) → H p = none → Q (.ref p) (upd H p (.lst (ms.map V.int)))
section
variable {X : Cx}
open SrtO in
theorem cr_sortTup : CallR X (.builtin "sorted") (rSortTup X.K) := by
  intro pins s σ H vs us Q I r h
  obtain ⟨a, ns, rfl, hs, q⟩ := h
  obtain ⟨its, rv, hl, hz⟩ := I.tuple hs
  rw [Vals.ref1 r]
  have hi := rv.ints
  refine sorted_tup swo_int hl (by rw [← rv.length]; exact hz) (fun h2 g a' _ _ => ints_sortable hi h2) fun out o1 o2 => ?_
  obtain ⟨k1, k2, k3⟩ := ints_out hi o1 o2
  obtain ⟨ep, he⟩ := PyProof.Rows.sortedAll_at s.heap its out.toArray
  have hlen : ((out.map iv).map V.int).length ≤ sizeLine := by
    rw [List.length_map] at hz
    rw [List.length_map, k2.length_eq]
    exact hz
  refine ⟨.ref _, upd H (s.heap.objs.size + 1) (.lst ((out.map iv).map V.int)), ?_, rfl, q _ _ k2 k3 (I.hok.fresh (Nat.le_succ _))⟩
  exact I.laid (t' := s.toks) (fun _ _ => PyProof.Rows.sortedAll_old) (Nat.le_succ _) ⟨hlen, out, ep, vals_of_ints k1, he⟩
theorem c_sorted : CallL X (.builtin "sorted") sortedF := by
  refine ⟨_, CallR.or cr_sortTup cr_sortedI, fun N ρ H xs ps z Q hN hx ho hQ => ?_⟩
  unfold sortedF at ho
  split at ho
  · rename_i l
    cases e : intsOf l with
    | none => rw [e] at ho; cases ho
    | some ns =>
      rw [e] at ho
      cases ho
      obtain ⟨v, rfl, r, _⟩ := hx.one
      obtain ⟨a, ys, rfl, h1, h1', h2⟩ := rvb_tup r
      rw [intsOf_eq e] at h2
      have ey := h2.ints
      subst ey
      rw [List.length_map] at h1'
      exact .inl ⟨a, ns, rfl, h1.sq, fun ms p pm hs np => by
        have e2 := isort_of pm hs
        subst e2
        exact hQ H p _ _ Ext.refl np rfl (by rw [List.length_map, (isort_perm ns).length_eq]; exact h1') (RVs.ofInts _)⟩
  · rename_i l
    cases e : intsOf l with
    | none => rw [e] at ho; cases ho
    | some ns =>
      rw [e] at ho
      cases ho
      obtain ⟨v, rfl, r, _⟩ := hx.one
      obtain ⟨a, ys, rfl, h1, h1', h2⟩ := rvb_lst r
      rw [intsOf_eq e] at h2
      have ey := h2.ints
      subst ey
      rw [List.length_map] at h1'
      exact .inr ⟨a, ns, rfl, SqL.of h1, fun ms p pm hs np => by
        have e2 := isort_of pm hs
        subst e2
        exact hQ H p _ _ Ext.refl np rfl (by rw [List.length_map, (isort_perm ns).length_eq]; exact h1') (RVs.ofInts _)⟩
  · cases ho
end
section
variable {X : Cx} {W : WX} {e : Expr} {es : List Expr} {g : EF (List PV)} {p pos : Pos}
theorem g_sorted (hm : X.mg "sorted" = none) (ha : MAb X W (e :: es) g) (hg : Gl X "sorted" := by rfl) (he : starEach (e :: es) X.env = (false, eval e X.env) :: starEach es X.env := by rfl) (hpl : (backTo pos (starEach es X.env)).any (·.1) = false := by rfl) : ML X W (.Call (.Name "sorted" p) (e :: es) [] pos) (lB sortedF g) := ml_callB c_sorted hg hm (by decide +kernel) ha (by decide) (by decide) he hpl
end
/-! ### x.append(y.pop(k)), own lists both -/
def sAppPop (i j : Nat) (a : EF PV) : SF := fun e st => match e[i]?, e[j]? with
  | some (.own l), some (.own m) => (a e st).toS e fun v st => match v with
    | .int k => match popAt m k with
      | some (y, m') => if l.length < LINE then .nx ((e.set j (.own m')).set i (.own (l ++ [y]))) st else .stuck
      | none => .stuck
    | _ => .stuck
  | _, _ => .stuck
theorem RVs.eraseIdx {K : PySem.W.Frag} {N : Addr → Prop} {ρ : List Addr} {H : Hp} : ∀ {l : List PV} {xs : List V} (i : Nat), RVs K N ρ H l xs → RVs K N ρ H (l.eraseIdx i) (xs.eraseIdx i)
  | [], _, i, h => by rw [h.unnil]; exact .nil
  | p :: ps, _, 0, h => by
    obtain ⟨v, vs, rfl, _, t⟩ := h.uncons
    exact t
  | p :: ps, _, i + 1, h => by
    obtain ⟨v, vs, rfl, r, t⟩ := h.uncons
    exact .cons r (RVs.eraseIdx i t)
section
variable {X : Cx} {W : WX} {e : Expr} {fe : EF PV} {pos apos cpos pos' apos2 cpos2 pos2 : Pos} {i j : Nat} {x y : Str}
theorem ms_appPop (h : ME X W e fe) (hij : i ≠ j) (hN : X.N[i]? = some x) (hv : Vis X.env.scope x) (hN2 : X.N[j]? = some y) (hv2 : Vis X.env.scope y) (hd : (x == ("__debug__" : Str)) = false := by decide) (hcd : (x == ("__classdict__" : Str)) = false := by decide) (hd2 : (y == ("__debug__" : Str)) = false := by decide) (hcd2 : (y == ("__classdict__" : Str)) = false := by decide)
    (hbase : attributeBase (.Name x pos') "append" X.env (eval (.Name x pos') X.env) = eval (.Name x pos') X.env := by rfl)
    (hfew : ((backTo cpos (starEach [.Call (.Attribute (.Name y pos2) "pop" apos2) [e] [] cpos2] X.env)).all (fun x => !x.1) && (backToKw cpos (keywordEach [] X.env)).all (fun x => x.1.isSome) && decide ([Expr.Call (.Attribute (.Name y pos2) "pop" apos2) [e] [] cpos2].length + ([] : List Keyword).length + (if ([] : List Keyword).isEmpty then 0 else 1) < 30)) = true := by rfl)
    (hline : (apos.endLine == cpos.line) = true := by rfl) (hs : starEach [.Call (.Attribute (.Name y pos2) "pop" apos2) [e] [] cpos2] X.env = (false, eval (.Call (.Attribute (.Name y pos2) "pop" apos2) [e] [] cpos2) X.env) :: starEach [] X.env := by rfl) (hplain : (backTo cpos (starEach [] X.env)).any (·.1) = false := by rfl)
    (hbase2 : attributeBase (.Name y pos2) "pop" X.env (eval (.Name y pos2) X.env) = eval (.Name y pos2) X.env := by rfl)
    (hfew2 : ((backTo cpos2 (starEach [e] X.env)).all (fun x => !x.1) && (backToKw cpos2 (keywordEach [] X.env)).all (fun x => x.1.isSome) && decide ([e].length + ([] : List Keyword).length + (if ([] : List Keyword).isEmpty then 0 else 1) < 30)) = true := by rfl)
    (hline2 : (apos2.endLine == cpos2.line) = true := by rfl) (hs2 : starEach [e] X.env = (false, eval e X.env) :: starEach [] X.env := by rfl) (hplain2 : (backTo cpos2 (starEach [] X.env)).any (·.1) = false := by rfl)
    (hsw : swapsWith (.Call (.Attribute (.Name x pos') "append" apos) [.Call (.Attribute (.Name y pos2) "pop" apos2) [e] [] cpos2] [] cpos) none pos.line X.env = pure false := by rfl) :
    MS X W (.Expr (.Call (.Attribute (.Name x pos') "append" apos) [.Call (.Attribute (.Name y pos2) "pop" apos2) [e] [] cpos2] [] cpos) pos) (sAppPop i j fe) := by
  obtain ⟨t, p, q⟩ := h
  refine ⟨_, ps_expr (pe_bm PySem.F.plainAttrs_list PySem.F.slot_list_append PySem.F.type_list_append mt_append (pe_var hN hv hd hcd) (pa_cons (pe_bm PySem.F.plainAttrs_list PySem.F.slot_list_pop PySem.F.type_list_pop mt_popAt (pe_var hN2 hv2 hd2 hcd2) (pa_cons p pa_nil hs2) hbase2 hfew2 hline2 hs2 hplain2) pa_nil hs) hbase hfew hline hs hplain) hsw, fun B ρ env st σ H D R h => ?_⟩
  unfold sAppPop at h
  cases e0 : env[i]? with
  | none => rw [e0] at h; exact h.elim
  | some ev =>
    cases e1 : env[j]? with
    | none => rw [e0, e1] at h; cases ev <;> exact h.elim
    | some ew =>
      rw [e0, e1] at h
      cases ev with
      | non => exact h.elim
      | val _ => exact h.elim
      | own l =>
        cases ew with
        | non => exact h.elim
        | val _ => exact h.elim
        | own m =>
          obtain ⟨z, xs, h1, h2, h3, h4⟩ := R.slot i _ e0
          obtain ⟨z2, ys, k1, k2, k3, k4⟩ := R.slot j _ e1
          refine ⟨.ref z, h1, .inl ⟨rfl, xs, SqL.of h2⟩, .ref z2, k1, .inl ⟨rfl, ys, SqL.of k2⟩, ?_⟩
          refine q B ρ env st σ H _ R (ROk.mono (SOk.toS h) fun v ρ1 st1 H1 E1 n1 u ru => ?_)
          obtain ⟨z', ws, g1, g2, g3, g4⟩ := E1.rep.slot j _ e1
          rw [k1] at g1
          cases g1
          cases v with
          | int k =>
            dsimp only at n1
            cases ep : popAt m k with
            | none => rw [ep] at n1; exact n1.elim
            | some r =>
              obtain ⟨pv, m'⟩ := r
              rw [ep] at n1
              dsimp only at n1
              unfold popAt at ep
              cases ei : ixN m.length k with
              | none => rw [ei] at ep; cases ep
              | some jj =>
                rw [ei] at ep
                dsimp only at ep
                cases eg : m[jj]? with
                | none => rw [eg] at ep; cases ep
                | some y0 =>
                  rw [eg] at ep
                  cases ep
                  by_cases hl : l.length < LINE
                  · rw [if_pos hl] at n1
                    obtain ⟨yv, b1, b2⟩ := g4.get eg
                    have lw := g4.len
                    obtain ⟨c1, c2, c3, c4⟩ := ixN_seq ei
                    have eu := rv_int ru
                    subst eu
                    have hL : LINE = 16777216 := rfl
                    refine ⟨z2, ws, k, jj, yv, rfl, rfl, g2, by omega, by omega, by rw [lw]; exact c1, b1, ?_⟩
                    have P1 := E1.rep.ownWrite (m := m.eraseIdx jj) (ys := ws.eraseIdx jj) e1 k1 (Nat.le_trans (List.length_eraseIdx_le _ _) g3) (g4.eraseIdx jj)
                    have e0' : (env.set j (.own (m.eraseIdx jj)))[i]? = some (.own l) := by rw [List.getElem?_set_ne (Ne.symm hij)]; exact e0
                    obtain ⟨z'', xs', d1, d2, d3, d4⟩ := P1.rep.slot i _ e0'
                    rw [h1] at d1
                    cases d1
                    have hl2 : (xs' ++ [yv]).length ≤ LINE := by rw [List.length_append, d4.len, List.length_singleton]; omega
                    exact ⟨z, xs', yv, rfl, rfl, d2, by rw [← LINE_eq, d4.len]; exact hl, n1 ρ1 σ _ (P1.trans (P1.rep.ownWrite e0' h1 hl2 (d4.append (.cons (P1.rv b2) .nil))))⟩
                  · rw [if_neg hl] at n1
                    exact n1.elim
          | _ => exact n1.elim
theorem g_appPop (i j : Nat) (h : ME X W e fe) (hij : i ≠ j := by decide) (hN : X.N[i]? = some x := by rfl) (hv : Vis X.env.scope x := by first | exact .inl rfl | exact .inr (.inl rfl)) (hN2 : X.N[j]? = some y := by rfl) (hv2 : Vis X.env.scope y := by first | exact .inl rfl | exact .inr (.inl rfl)) (hd : (x == ("__debug__" : Str)) = false := by decide) (hcd : (x == ("__classdict__" : Str)) = false := by decide) (hd2 : (y == ("__debug__" : Str)) = false := by decide) (hcd2 : (y == ("__classdict__" : Str)) = false := by decide)
    (hbase : attributeBase (.Name x pos') "append" X.env (eval (.Name x pos') X.env) = eval (.Name x pos') X.env := by rfl)
    (hfew : ((backTo cpos (starEach [.Call (.Attribute (.Name y pos2) "pop" apos2) [e] [] cpos2] X.env)).all (fun x => !x.1) && (backToKw cpos (keywordEach [] X.env)).all (fun x => x.1.isSome) && decide ([Expr.Call (.Attribute (.Name y pos2) "pop" apos2) [e] [] cpos2].length + ([] : List Keyword).length + (if ([] : List Keyword).isEmpty then 0 else 1) < 30)) = true := by rfl)
    (hline : (apos.endLine == cpos.line) = true := by rfl) (hs : starEach [.Call (.Attribute (.Name y pos2) "pop" apos2) [e] [] cpos2] X.env = (false, eval (.Call (.Attribute (.Name y pos2) "pop" apos2) [e] [] cpos2) X.env) :: starEach [] X.env := by rfl) (hplain : (backTo cpos (starEach [] X.env)).any (·.1) = false := by rfl)
    (hbase2 : attributeBase (.Name y pos2) "pop" X.env (eval (.Name y pos2) X.env) = eval (.Name y pos2) X.env := by rfl)
    (hfew2 : ((backTo cpos2 (starEach [e] X.env)).all (fun x => !x.1) && (backToKw cpos2 (keywordEach [] X.env)).all (fun x => x.1.isSome) && decide ([e].length + ([] : List Keyword).length + (if ([] : List Keyword).isEmpty then 0 else 1) < 30)) = true := by rfl)
    (hline2 : (apos2.endLine == cpos2.line) = true := by rfl) (hs2 : starEach [e] X.env = (false, eval e X.env) :: starEach [] X.env := by rfl) (hplain2 : (backTo cpos2 (starEach [] X.env)).any (·.1) = false := by rfl)
    (hsw : swapsWith (.Call (.Attribute (.Name x pos') "append" apos) [.Call (.Attribute (.Name y pos2) "pop" apos2) [e] [] cpos2] [] cpos) none pos.line X.env = pure false := by rfl) :
    MS X W (.Expr (.Call (.Attribute (.Name x pos') "append" apos) [.Call (.Attribute (.Name y pos2) "pop" apos2) [e] [] cpos2] [] cpos) pos) (sAppPop i j fe) := ms_appPop h hij hN hv hN2 hv2 hd hcd hd2 hcd2 hbase hfew hline hs hplain hbase2 hfew2 hline2 hs2 hplain2 hsw
end
section
variable {e : Env} {st : Sto}
@[simp] theorem sAppPop_e (i j : Nat) (a : EF PV) : sAppPop i j a e st = (match e[i]?, e[j]? with
  | some (.own l), some (.own m) => (a e st).toS e fun v st => match v with
    | .int k => match popAt m k with
      | some (y, m') => if l.length < LINE then .nx ((e.set j (.own m')).set i (.own (l ++ [y]))) st else .stuck
      | none => .stuck
    | _ => .stuck
  | _, _ => .stuck) := rfl
@[simp] theorem iEnumZip_e (g : EF (List PV)) : iEnumZip g e st = (g e st).bind fun vs st => match vs with
  | [.tup l, .tup m] => .ok (enumF 0 (zipF l m)) st
  | _ => .stuck := rfl
end
end PL
/-! PLs: instances: their fields, properties, methods; made. -/
namespace PL
variable {Zg : Prop}
open PySem PySem.Spec L2
/-! ### fields -/
def insF (st : Sto) : PV → Option (Str × List Str × List PV)
  | .ins c ns vs => some (c, ns, vs)
  | .gl n => match st[n]? with
    | some (.ins c ns vs) => some (c, ns, vs)
    | _ => none
  | _ => none
def fldF (c0 f : Str) (st : Sto) (p : PV) : Option PV := match insF st p with
  | some (c, ns, vs) => if c = c0 then (ns.zip vs).lookup f else none
  | none => none
def eFld (c0 f : Str) (a : EF PV) : EF PV := fun e st => (a e st).bind fun p st => .of (fldF c0 f st p) st
section
variable {K : PySem.W.Frag} {N : Addr → Prop} {B : Addr → Prop} {ρ : List Addr} {env : Env} {st : Sto} {σ : L2.St} {H : Hp}
theorem zip_rv {f : Str} {p : PV} : ∀ {ns : List Str} {vs : List PV} {ws : List V}, RVs K N ρ H vs ws → (ns.zip vs).lookup f = some p → ∃ v, (ns.zip ws).lookup f = some v ∧ RV K N ρ H p v
  | [], _, _, _, h => by simp at h
  | n :: ns, [], ws, r, h => by simp at h
  | n :: ns, q :: vs, ws, r, h => by
    obtain ⟨w, ws', rfl, r1, r2⟩ := r.uncons
    rw [List.zip_cons_cons, List.lookup_cons] at h ⊢
    split at h
    · cases h
      exact ⟨w, rfl, r1⟩
    · exact zip_rv r2 h
/-- where an instance lies -/
theorem ins_at (R : Rep K B ρ env st σ H) {p : PV} {u : V} (r : RV K (Excl B ρ env σ) ρ H p u) {c : Str} {ns : List Str} {vs : List PV} (h : insF st p = some (c, ns, vs)) :
    ∃ a dx ws, u = .ref a ∧ H a = some (.ins (He.ga K c) dx (ns.zip ws)) ∧ ws.length = ns.length ∧ RVs K (Excl B ρ env σ) ρ H vs ws := by
  cases p with
  | ins c' ns' vs' =>
    cases h
    obtain ⟨a, ws, rfl, ⟨_, h1, dx, h2⟩, h3⟩ := rv_ins r
    exact ⟨a, dx, ws, rfl, h2, h1, h3⟩
  | gl n =>
    obtain ⟨a, rfl, hn⟩ := rv_gl r
    have h : (match st[n]? with
      | some (.ins c ns vs) => some (c, ns, vs)
      | _ => none) = some (c, ns, vs) := h
    cases e : st[n]? with
    | none => rw [e] at h; cases h
    | some cl =>
      rw [e] at h
      cases cl with
      | lst l => cases h
      | dead => cases h
      | dk _ => cases h
      | dt _ => cases h
      | tbl _ _ => cases h
      | ins c' ns' vs' =>
        cases h
        obtain ⟨dx, ws, q1, q2, q3, q4, q5⟩ := R.cell n _ a e hn
        exact ⟨a, dx, ws, rfl, q1, q4, q5⟩
  | _ => cases h
end
section
variable {X : Cx} {W : WX} {e o : Expr} {fe fa : EF PV} {c0 f : Str} {pos pos' : Pos}
theorem m_fld (h : ME X W e fe) (c : Cls X.K (He.ga X.K c0)) (n : NoAttr X.K (He.ga X.K c0) f) (hb : attributeBase e f X.env (eval e X.env) = eval e X.env := by rfl) : ME X W (.Attribute e f pos) (eFld c0 f fe) := by
  obtain ⟨t, p, q⟩ := h
  refine ⟨_, pe_fld p hb, fun B ρ env st σ H Q R h => ?_⟩
  refine q B ρ env st σ H _ R (ROk.mono (ROk.bind h) fun pv ρ1 st1 H1 E1 h1 u ru => ?_)
  obtain ⟨z, ez, hz⟩ := ROk.of E1.rep h1
  unfold fldF at ez
  cases ei : insF st1 pv with
  | none => rw [ei] at ez; cases ez
  | some r =>
    obtain ⟨c', ns, vs⟩ := r
    rw [ei] at ez
    dsimp only at ez
    by_cases hc : c' = c0
    · subst hc
      rw [if_pos rfl] at ez
      obtain ⟨a, dx, ws, rfl, h2, h3, h4⟩ := ins_at E1.rep ru ei
      obtain ⟨v, g1, g2⟩ := zip_rv h4 ez
      exact ⟨a, _, dx, _, v, rfl, h2, c, n, g1, hz H1 Ext.refl v g2⟩
    · rw [if_neg hc] at ez
      cases ez
end
/-! ### properties -/
/-- a def by its address -/
def CalA (Zg : Prop) (P : Program) (w : World) (K : PySem.W.Frag) (mg : Str → Option Value) (base : Heap) (k : Nat) (g : Addr) (ps : List Str) (F : Fn) : Prop :=
  ∃ fd, FnG Zg P w K mg base k g fd ps (spF K ps.length F) ∧ Binds K fd ps []
theorem CalA.mono {P : Program} {w : World} {K : PySem.W.Frag} {mg : Str → Option Value} {base : Heap} {j k : Nat} {g : Addr} {ps : List Str} {F : Fn} (c : CalA Zg P w K mg base j g ps F) (h : j ≤ k) : CalA Zg P w K mg base k g ps F := by
  obtain ⟨fd, c1, c2⟩ := c
  exact ⟨fd, c1.mono h, c2⟩
def isIns (c0 : Str) (st : Sto) (p : PV) : Bool := match insF st p with
  | some (c, _, _) => decide (c = c0)
  | none => false
/-- .. has no attribute of this name -/
def isInsNo (c0 m : Str) (st : Sto) (p : PV) : Bool := match insF st p with
  | some (c, ns, _) => decide (c = c0) && !ns.contains m
  | none => false
def eProp (c0 : Str) (F : Fn) (a : EF PV) : EF PV := fun e st => (a e st).bind fun p st => if isIns c0 st p = true then (F [p] st).noE else .stuck
section
variable {X : Cx} {W : WX} {e : Expr} {fe : EF PV} {c0 f : Str} {pos : Pos} {k : Nat} {g pr : Addr} {ps : List Str} {F : Fn}
theorem prop_runG {pins : List (Addr × Obj)} {σ : L2.St} {H : Hp} {s : Shared} {Q : VK} {b : Bool} {C a dx : Addr} {fs : List (Str × V)} {fd : FuncData} {sp : Sp} (I : Inv X pins σ H s) (ea : H a = some (.ins C dx fs)) (c : Cls X.K C) (hp : PropOf X.K C f pr g)
    (G : FnG Zg X.prog X.w X.K X.mg X.base k g fd ps sp) (hr : Room (k + 1) X.A) (hgd : Zg → X.A.guards = some []) (hb : Binds X.K fd ps []) (h : sp [.ref a] H Q fun _ _ _ => False) :
    wpAny (model X.prog X.w) X.A (getAttr (.ref a) f b) (EP X pins σ Q) X.xe s := by
  obtain ⟨mA, O, _⟩ := ins_get I.hok ea
  obtain ⟨od, J, _⟩ := O.look
  obtain ⟨rest, hrec⟩ := hp.rec_
  have I1 := I.tok (s.toks + 1)
  have hl : ([Value.ref a] ++ []).length = ps.length := (by rw [← G.len _ _ _ _ h]; rfl)
  have hc : (PySem.W.clsIn X.K C).isSome = true := by
    obtain ⟨cd, q, _⟩ := PySem.W.any_some c.hd
    rw [q]
    rfl
  have pg := PySem.W.plainGet_of (c.get f)
  refine PySem.W.get_bind I.kIn J pg.1 (PySem.W.findObj_data hc hp.at_ hp.get hp.tak) pg.2 (wpAny_call (PySem.W.prop_get (s := { s with toks := s.toks + 1 }) I.kIn hrec ?_))
  have run := G.run X.A.in1 X.stack { s with toks := s.toks + 1 } H ⟨[.ref a], []⟩ [.ref a] [.ref a] Q (fun _ _ _ => False) hr.in1 hgd I1.env0.in1 (hb _ [.ref a] I1.kIn hl) (.cons rfl .nil) h
  refine codeAny_mono run fun r s' hq => ?_
  cases r with
  | error er =>
    obtain ⟨_, _, _, _, _, _, _, _, _, _, _, _, z⟩ := hq
    exact z.elim
  | ok fl =>
    cases fl with
    | next => exact False.elim hq
    | brk => exact False.elim hq
    | cont => exact False.elim hq
    | ret u =>
      obtain ⟨v, H', I3, rv, q3⟩ := I1.after hq
      refine (show wpAny (model X.prog X.w) X.A (handedOut u) _ _ _ from ?_)
      rw [PySem.W.handedOut_of (handed_of rv)]
      exact wpAny_pure ⟨v, H', I3, rv, q3⟩
def tPropG (K : PySem.W.Frag) (C : Addr) (sp : Sp) (ta : TE) : TE := fun σ H Q => ta σ H fun x H1 => ∃ a dx fs, x = .ref a ∧ H1 a = some (.ins C dx fs) ∧ sp [.ref a] H1 Q fun _ _ _ => False
theorem isIns_some {c0 : Str} {st : Sto} {p : PV} (h : isIns c0 st p = true) : ∃ ns vs, insF st p = some (c0, ns, vs) := by
  unfold isIns at h
  split at h
  · rename_i c ns vs e
    have := of_decide_eq_true h
    subst this
    exact ⟨ns, vs, e⟩
  · cases h
theorem m_prop (h : ME X W e fe) (c : Cls X.K (He.ga X.K c0)) (hp : PropOf X.K (He.ga X.K c0) f pr g) (G : CalA Zg X.prog X.w X.K X.mg X.base k g ps F) (hl : ps.length = 1) (hr : Room (k + 1) X.A) (hgd : Zg → X.A.guards = some []) (hb : attributeBase e f X.env (eval e X.env) = eval e X.env := by rfl) :
    ME X W (.Attribute e f pos) (eProp c0 F fe) := by
  obtain ⟨t, p, q⟩ := h
  obtain ⟨fd, G, bd⟩ := G
  refine ⟨tPropG X.K (He.ga X.K c0) (spF X.K ps.length F) t, ⟨fun pins s σ H Q I h => ?_⟩, fun B ρ env st σ H Q R h => ?_⟩
  · refine attr_of hb (thn (p.run pins s σ H _ I h) fun u s1 ⟨x, H1, I1, rx, a, dx, fs, ex, ea, q⟩ => ?_)
    subst ex
    obtain rfl : u = Value.ref a := rx
    exact prop_runG I1 ea c hp G hr hgd bd q
  · refine q B ρ env st σ H _ R (ROk.mono (ROk.bind h) fun pv ρ1 st1 H1 E1 h1 u ru => ?_)
    by_cases hi : isIns c0 st1 pv = true
    · rw [if_pos hi] at h1
      obtain ⟨ns, vs, ei⟩ := isIns_some hi
      obtain ⟨a, dx, ws, rfl, h2, h3, h4⟩ := ins_at E1.rep ru ei
      exact ⟨a, dx, _, rfl, h2, spF_of (W := WF) E1.rep (.cons ru .nil) hl.symm (noE_ok h1)⟩
    · rw [if_neg hi] at h1
      exact h1.elim
end
/-! ### methods -/
def eMeth (c0 m : Str) (F : Fn) (o : EF PV) (a : EF (List PV)) : EF PV := fun e st => (o e st).bind fun p st => if isInsNo c0 m st p = true then (a e st).bind fun xs st => F (p :: xs) st else .stuck
def tMethG (C : Addr) (m : Str) (sp : Sp) (W : WX) (ta : TE) (t : TA) : TE := fun σ H Q => ta σ H fun x H1 => ∃ a dx fs, x = .ref a ∧ H1 a = some (.ins C dx fs) ∧ fs.lookup m = none ∧ t σ H1 fun vs H2 => sp (x :: vs) H2 Q fun cls d H' => W cls d σ H'
theorem zip_no {f : Str} : ∀ {ns : List Str} {ws : List V}, ns.contains f = false → (ns.zip ws).lookup f = none
  | [], _, _ => by simp
  | n :: ns, [], _ => by simp
  | n :: ns, w :: ws, h => by
    rw [List.contains_cons, Bool.or_eq_false_iff] at h
    rw [List.zip_cons_cons, List.lookup_cons]
    rw [h.1]
    exact zip_no h.2
theorem isInsNo_some {c0 m : Str} {st : Sto} {p : PV} (h : isInsNo c0 m st p = true) : ∃ ns vs, insF st p = some (c0, ns, vs) ∧ ns.contains m = false := by
  unfold isInsNo at h
  split at h
  · rename_i c ns vs e
    rw [Bool.and_eq_true, Bool.not_eq_true'] at h
    have := of_decide_eq_true h.1
    subst this
    exact ⟨ns, vs, e, h.2⟩
  · cases h
section
variable {X : Cx} {W : WX} {o e : Expr} {es : List Expr} {fo : EF PV} {g : EF (List PV)} {c0 m : Str} {pos apos : Pos} {k : Nat} {f : Addr} {ps : List Str} {F : Fn}
theorem m_meth {pl : Sem Bool} (h : ME X W o fo) (c : Cls X.K (He.ga X.K c0)) (hm : Meth X.K (He.ga X.K c0) m f) (G : CalA Zg X.prog X.w X.K X.mg X.base k f ps F) (hr : Room k X.A) (hgd : Zg → X.A.guards = some []) (tk : Takes X W) (ha : MA X W (e :: es) g) (hn : (e :: es).length + 1 = ps.length) (hlen : ∀ en st l st', g en st = .ok l st' → l.length = (e :: es).length)
    (hst : starEach (e :: es) X.env = (false, eval e X.env) :: starEach es X.env := by rfl) (hpl : (backTo pos (starEach es X.env)).any (·.1) = false := by rfl)
    (ht : eval (.Call (.Attribute o m apos) (e :: es) [] pos) X.env = (do
      let ov ← eval o X.env
      standAt apos.atName
      let (f, first) ← holding [ov] (getMethod ov m pl)
      callWith pos f first (backTo pos (starEach (e :: es) X.env)) (backToKw pos (keywordEach [] X.env))) := by rfl) :
    ME X W (.Call (.Attribute o m apos) (e :: es) [] pos) (eMeth c0 m F fo g) := by
  obtain ⟨to, po, qo⟩ := h
  obtain ⟨ta, pa, qa⟩ := ha
  obtain ⟨fd, G, bd⟩ := G
  refine ⟨tMethG (He.ga X.K c0) m (spF X.K ps.length F) W to ta, ⟨fun pins s σ H Q I h => ?_⟩, fun B ρ env st σ H Q R h => ?_⟩
  · refine PySem.W.methodCall_KW (pl := pl) (thn (po.run pins s σ H _ I h) fun u s1 ⟨x, H1, I1, rx, a, dx, fs, ex, ea, l, q⟩ => ?_) ht
    subst ex
    obtain rfl : u = Value.ref a := rx
    refine getmeth_ok I1 ea c hm l (PySem.W.callWith_K (first := [.ref a]) (h₀ := X.base) I.ok.mod.kin hm.kp (thn (pa.run pos pins s1 σ H1 _ I1 q) fun us s2 ⟨vs, H2, I2, r, q2⟩ => ⟨I2.kIn, ?_⟩) hst hpl)
    exact runG (us := .ref a :: us) (vs := .ref a :: vs) G hr hgd bd tk I2 (.cons rfl r) q2
  · refine qo B ρ env st σ H _ R (ROk.mono (ROk.bind h) fun pv ρ1 st1 H1 E1 h1 u ru => ?_)
    by_cases hi : isInsNo c0 m st1 pv = true
    · rw [if_pos hi] at h1
      obtain ⟨ns, vs, ei, en⟩ := isInsNo_some hi
      obtain ⟨a, dx, ws, rfl, h2, h3, h4⟩ := ins_at E1.rep ru ei
      refine ⟨a, dx, _, rfl, h2, zip_no en, qa B ρ1 env st1 σ H1 _ E1.rep ?_⟩
      cases hg : g env st1 with
      | stuck => rw [hg] at h1; exact h1.elim
      | exc y st' => rw [hg] at h1; exact h1
      | ok l st' =>
        rw [hg] at h1
        refine fun ρ2 H2 E2 us rus => spF_of E2.rep (.cons (E2.post.rv ru) rus) ?_ (ROk.shift E2 h1)
        rw [List.length_cons, hlen _ _ _ _ hg]
        exact hn
    · rw [if_neg hi] at h1
      exact h1.elim
theorem m_meth0 {pl : Sem Bool} (h : ME X W o fo) (c : Cls X.K (He.ga X.K c0)) (hm : Meth X.K (He.ga X.K c0) m f) (G : CalA Zg X.prog X.w X.K X.mg X.base k f ps F) (hr : Room k X.A) (hgd : Zg → X.A.guards = some []) (tk : Takes X W) (hn : ps.length = 1)
    (ht : eval (.Call (.Attribute o m apos) [] [] pos) X.env = (do
      let ov ← eval o X.env
      standAt apos.atName
      let (f, first) ← holding [ov] (getMethod ov m pl)
      callWith pos f first (backTo pos (starEach [] X.env)) (backToKw pos (keywordEach [] X.env))) := by rfl) :
    ME X W (.Call (.Attribute o m apos) [] [] pos) (eMeth c0 m F fo aNil) := by
  obtain ⟨to, po, qo⟩ := h
  obtain ⟨fd, G, bd⟩ := G
  refine ⟨tMethG (He.ga X.K c0) m (spF X.K ps.length F) W to tNil, ⟨fun pins s σ H Q I h => ?_⟩, fun B ρ env st σ H Q R h => ?_⟩
  · refine PySem.W.methodCall_KW (pl := pl) (thn (po.run pins s σ H _ I h) fun u s1 ⟨x, H1, I1, rx, a, dx, fs, ex, ea, l, q⟩ => ?_) ht
    subst ex
    obtain rfl : u = Value.ref a := rx
    exact getmeth_ok I1 ea c hm l (PySem.W.callWith_K0 (first := [.ref a]) I1.kIn hm.kp (runG (us := [.ref a]) (vs := [.ref a]) G hr hgd bd tk I1 (.cons rfl .nil) q))
  · refine qo B ρ env st σ H _ R (ROk.mono (ROk.bind h) fun pv ρ1 st1 H1 E1 h1 u ru => ?_)
    by_cases hi : isInsNo c0 m st1 pv = true
    · rw [if_pos hi] at h1
      obtain ⟨ns, vs, ei, en⟩ := isInsNo_some hi
      obtain ⟨a, dx, ws, rfl, h2, h3, h4⟩ := ins_at E1.rep ru ei
      exact ⟨a, dx, _, rfl, h2, zip_no en, spF_of E1.rep (.cons ru .nil) hn.symm h1⟩
    · rw [if_neg hi] at h1
      exact h1.elim
end
end PL
/-! PLt: instances made: within __init__ a thing of the store, behind it a value. -/
namespace PL
open PySem PySem.Spec L2
mutual
/-- names things of the store below n alone -/
def glB (n : Nat) : PV → Bool
  | .gl m => decide (m < n)
  | .tup l => glBs n l
  | .lst l => glBs n l
  | .ins _ _ l => glBs n l
  | .non => true
  | .bl _ => true
  | .int _ => true
  | .str _ => true
  | .cls _ => true
  | .tud l => glBs n l
  | .exn _ _ _ _ l => glBs n l
  | .scr _ => true
def glBs (n : Nat) : List PV → Bool
  | [] => true
  | p :: ps => glB n p && glBs n ps
end
section
variable {K : PySem.W.Frag} {N : Addr → Prop} {ρ ρ' : List Addr} {H : Hp}
mutual
theorem RV.unpush (hp : ρ <+: ρ') : ∀ (p : PV) (v : V), glB ρ.length p = true → RV K N ρ' H p v → RV K N ρ H p v
  | .non, _, _, h => by unfold RV at h ⊢; exact h
  | .bl _, _, _, h => by unfold RV at h ⊢; exact h
  | .int _, _, _, h => by unfold RV at h ⊢; exact h
  | .str _, _, _, h => by unfold RV at h ⊢; exact h
  | .cls _, _, _, h => by unfold RV at h ⊢; exact h
  | .scr _, _, _, h => by unfold RV at h ⊢; exact h
  | .gl m, v, g, h => by
    obtain ⟨a, rfl, h1⟩ := rv_gl h
    have g : decide (m < ρ.length) = true := by unfold glB at g; exact g
    have g := of_decide_eq_true g
    obtain ⟨t, rfl⟩ := hp
    rw [List.getElem?_append_left g] at h1
    unfold RV
    exact ⟨a, rfl, h1⟩
  | .tup l, v, g, h => by
    obtain ⟨a, xs, rfl, h1, h2, h3⟩ := rv_tup h
    exact mk_tupK h1 h2 (RVs.unpush hp l xs (by unfold glB at g; exact g) h3)
  | .lst l, v, g, h => by
    obtain ⟨a, xs, rfl, n, h1, h2, h3⟩ := rv_lst h
    exact mk_lst n h1 h2 (RVs.unpush hp l xs (by unfold glB at g; exact g) h3)
  | .tud l, v, g, h => by
    obtain ⟨a, xs, rfl, h1, h2, h3⟩ := rv_tud h
    exact mk_tud h1 h2 (RVs.unpush hp l xs (by unfold glB at g; exact g) h3)
  | .ins c ns l, v, g, h => by
    obtain ⟨a, ws, rfl, h1, h3⟩ := rv_ins h
    exact mk_ins h1 (RVs.unpush hp l ws (by unfold glB at g; exact g) h3)
  | .exn a d c ns l, v, g, h => by
    have q := rv_exn h
    rw [q.1]
    refine mk_exn ?_
    cases q.2 with
    | inl h0 => exact .inl h0
    | inr h0 =>
      obtain ⟨ws, h1, n, h2, h3⟩ := h0
      exact .inr ⟨ws, h1, n, h2, RVs.unpush hp l ws (by unfold glB at g; exact g) h3⟩
theorem RVs.unpush (hp : ρ <+: ρ') : ∀ (l : List PV) (xs : List V), glBs ρ.length l = true → RVs K N ρ' H l xs → RVs K N ρ H l xs
  | [], _, _, h => by rw [h.unnil]; exact .nil
  | p :: ps, _, g, h => by
    obtain ⟨v, vs, rfl, h1, h2⟩ := h.uncons
    have g : (glB ρ.length p && glBs ρ.length ps) = true := by unfold glBs at g; exact g
    rw [Bool.and_eq_true] at g
    exact .cons (RV.unpush hp p v g.1 h1) (RVs.unpush hp ps vs g.2 h2)
end
end
def glC (n : Nat) : Cell → Bool
  | .lst l => glBs n l
  | .ins _ _ l => glBs n l
  | .dead => false
  | .dk kvs => glBs n (kvs.map (·.2))
  | .dt kvs => glBs n (kvs.map (·.2))
  | .tbl _ _ => true
theorem CellOk.unpush {K : PySem.W.Frag} {N : Addr → Prop} {ρ ρ' : List Addr} {H : Hp} (hp : ρ <+: ρ') {c : Cell} {a : Addr} (g : glC ρ.length c = true) (h : CellOk K N ρ' H c a) : CellOk K N ρ H c a := by
  cases c with
  | dead => trivial
  | lst l =>
    obtain ⟨xs, q1, q2, q3⟩ := h
    exact ⟨xs, q1, q2, RVs.unpush hp l xs g q3⟩
  | dk kvs =>
    obtain ⟨us, q1, q2, q3, q4⟩ := h
    exact ⟨us, q1, q2, q3, RVs.unpush hp _ _ g q4⟩
  | dt kvs =>
    obtain ⟨us, q1, q2, q3, q4⟩ := h
    exact ⟨us, q1, q2, q3, RVs.unpush hp _ _ g q4⟩
  | tbl _ _ => exact h
  | ins c ns l =>
    obtain ⟨dx, ws, q1, q2, q3, q4, q5⟩ := h
    exact ⟨dx, ws, q1, q2, q3, q4, RVs.unpush hp l ws g q5⟩
section
variable {K : PySem.W.Frag} {B : Addr → Prop} {ρ ρ' : List Addr} {env : Env} {st st' : Sto} {σ : L2.St} {H H' : Hp} {x dx : Addr} {c0 : Str}
/-- a new instance in the store -/
theorem Rep.newIns (R : Rep K B ρ env st σ H) (nx : H x = none) (nd : H dx = none) (ne : dx ≠ x) :
    Rep K (Outer B env σ) (ρ ++ [x]) [] (st ++ [.ins c0 [] []]) [] (upd (upd H dx (.own x)) x (.ins (He.ga K c0) dx [])) := by
  have C := R.call
  have E : Ext H (upd (upd H dx (.own x)) x (.ins (He.ga K c0) dx [])) := (Ext.new nd).trans (.new (by rw [upd_ne (Ne.symm ne)]; exact nx))
  have tr : ∀ a, H a ≠ none → (upd (upd H dx (.own x)) x (.ins (He.ga K c0) dx [])) a ≠ none := fun a h z => by
    cases e : H a with
    | none => exact h e
    | some o => rw [E a o e] at z; cases z
  have xr : x ∉ ρ := fun z => R.rT x z nx
  have xo : ¬ Outer B env σ x := fun z => C.bT x z nx
  have less : ∀ a o, H a = some o → Excl (Outer B env σ) (ρ ++ [x]) [] ([] : L2.St) a → Excl (Outer B env σ) ρ [] ([] : L2.St) a := fun a o e n => by
    rcases n with n | n | n
    · exact .inl n
    · rcases List.mem_append.mp n with n | n
      · exact .inr (.inl n)
      · rw [List.mem_singleton.mp n, nx] at e
        cases e
    · exact .inr (.inr n)
  refine ⟨rfl, by simp [R.lenC], List.nodup_append.mpr ⟨R.nd, by simp, fun a ha c hc z => xr (by rw [← List.mem_singleton.mp hc, ← z]; exact ha)⟩, fun n c a h1 h2 => ?_, fun a h => ?_, fun a h => ?_, fun a h => (C.bN a h).keep fun o e => E a o e, fun i e h => by simp at h, fun a h => (no_own h).elim, fun i j l l' a h => by simp at h⟩
  · by_cases hn : n < st.length
    · rw [List.getElem?_append_left hn] at h1
      rw [List.getElem?_append_left (by rw [R.lenC]; exact hn)] at h2
      exact (C.cell n c a h1 h2).carry less (fun a o e _ => E a o e) (List.prefix_append ρ [x]) fun o q => E a o q
    · rw [List.getElem?_append_right (by omega)] at h1
      rw [List.getElem?_append_right (by rw [R.lenC]; omega), R.lenC] at h2
      have e0 : n - st.length = 0 := by
        by_cases h0 : n - st.length = 0
        · exact h0
        · rw [List.getElem?_eq_none (by simp; omega)] at h1
          cases h1
      rw [e0] at h1 h2
      cases h1
      cases h2
      refine ⟨dx, [], upd_same, fun z => ?_, by rw [upd_ne ne, upd_same], rfl, .nil⟩
      rcases z with z | z | z
      · exact C.bT dx z nd
      · rcases List.mem_append.mp z with z | z
        · exact R.rT dx z nd
        · exact ne (List.mem_singleton.mp z)
      · exact no_own z
  · rcases List.mem_append.mp h with h | h
    · exact tr a (R.rT a h)
    · rw [List.mem_singleton.mp h, upd_same]
      exact fun z => by cases z
  · rcases List.mem_append.mp h with h | h
    · exact C.rB a h
    · rw [List.mem_singleton.mp h]
      exact xo
/-- the last thing of the store is let go -/
theorem Rep.letGo (R : Rep K B ρ env st σ H) (nx : H x = none) (nd : H dx = none) (ne : dx ≠ x) (E : EPost K (Outer B env σ) (ρ ++ [x]) [] [] (upd (upd H dx (.own x)) x (.ins (He.ga K c0) dx [])) ρ' st' H') (hl : st'.length = st.length + 1) (hg : (st'.take st.length).all (glC st.length) = true) :
    ρ' = ρ ++ [x] ∧ EPost K B ρ env σ H ρ (st'.take st.length) H' := by
  have er : ρ' = ρ ++ [x] := by
    refine (List.IsPrefix.eq_of_length E.pre ?_).symm
    rw [E.rep.lenC, hl, List.length_append, R.lenC]
    rfl
  subst er
  have xr : x ∉ ρ := fun z => R.rT x z nx
  have EX : Ext H (upd (upd H dx (.own x)) x (.ins (He.ga K c0) dx [])) := (Ext.new nd).trans (.new (by rw [upd_ne (Ne.symm ne)]; exact nx))
  have k0 : ∀ a o, H a = some o → a ∉ ρ → H' a = some o := fun a o e n => E.kp a o (EX a o e) fun z => by
    rcases List.mem_append.mp z with z | z
    · exact n z
    · rw [List.mem_singleton.mp z, nx] at e
      cases e
  have kk : ∀ a o, H a = some o → ¬ Excl B ρ env σ a → H' a = some o := fun a o e n => k0 a o e fun z => n (.inr (.inl z))
  have tr : ∀ a, H a ≠ none → H' a ≠ none := fun a h => E.tr a fun z => by
    cases e : H a with
    | none => exact h e
    | some o => rw [EX a o e] at z; cases z
  have lt : ∀ {n : Nat} {c : Cell}, (st'.take st.length)[n]? = some c → n < st.length ∧ st'[n]? = some c := fun {n c} h => by
    rw [List.getElem?_take] at h
    split at h
    · exact ⟨by assumption, h⟩
    · cases h
  refine ⟨rfl, ⟨R.lenE, ?_, R.nd, fun n c a h1 h2 => ?_, fun a h => tr a (R.rT a h), R.rB, fun a h => (R.bN a h).keep fun o e => k0 a o e fun z => R.rB a z h, fun i e h => ?_, R.oR, R.sep⟩, List.prefix_rfl, k0, tr, fun _ h n => absurd h n⟩
  · rw [R.lenC, List.length_take, hl]
    omega
  · obtain ⟨l1, l2⟩ := lt h1
    have hn : n < ρ.length := by rw [R.lenC]; exact l1
    have q := E.rep.cell n c a l2 (by rw [List.getElem?_append_left hn]; exact h2)
    have gc := List.all_eq_true.mp hg c (List.mem_of_getElem? h1)
    have q2 : CellOk K (Excl B ρ env σ) (ρ ++ [x]) H' c a := q.carry (fun a o _ n => by
      rw [excl_outer]
      rcases n with n | n | n
      · exact .inl n
      · exact .inr (.inl (List.mem_append_left _ n))
      · exact .inr (.inr n)) (fun a o e _ => e) List.prefix_rfl fun o q => q
    exact CellOk.unpush (List.prefix_append ρ [x]) (by rw [R.lenC]; exact gc) q2
  · have q := R.slot i e h
    cases e with
    | non => trivial
    | val p =>
      obtain ⟨v, q1, q2⟩ := q
      exact ⟨v, q1, RV.carry (fun _ _ _ z => z) kk List.prefix_rfl _ _ q2⟩
    | own l =>
      obtain ⟨a, xs, q0, q1, q2, q3⟩ := q
      exact ⟨a, xs, q0, k0 a _ q1 (R.oR a ⟨i, l, h, q0⟩).1, q2, RVs.carry (fun _ _ _ z => z) kk List.prefix_rfl _ _ q3⟩
end
/-- C(..): __init__ at a new thing of the store, which is a value behind it -/
def makF (c0 : Str) (F : Fn) (xs : List PV) (st : Sto) : RE PV := match F (.gl st.length :: xs) (st ++ [.ins c0 [] []]) with
  | .ok .non st' => if st'.length = st.length + 1 ∧ (st'.take st.length).all (glC st.length) = true then
      (match st'[st.length]? with
        | some (.ins c ns vs) => if c = c0 ∧ glBs st.length vs = true then .ok (.ins c ns vs) (st'.take st.length) else .stuck
        | _ => .stuck)
      else .stuck
  | .exc x st' => if (st'.length = st.length + 1 ∧ (st'.take st.length).all (glC st.length) = true) ∧ glBs st.length (x.fs.map (·.2)) = true then .exc x (st'.take st.length) else .stuck
  | _ => .stuck
section
variable {K : PySem.W.Frag} {W : WX} {B : Addr → Prop} {ρ : List Addr} {env : Env} {st : Sto} {σ : L2.St} {H : Hp} {c0 : Str} {F : Fn} {n : Nat} {Q : VK} {vl : List PV} {vs : List V}
theorem spF_make (R : Rep K B ρ env st σ H) (r : RVs K (Excl B ρ env σ) ρ H vl vs) (hn : vl.length + 1 = n)
    (h : ROk K W B ρ env σ H (makF c0 F vl st) fun p ρ' st' H' => ∀ u, RV K (Excl B ρ' env σ) ρ' H' p u → Q u H') (x dx : Addr) (nx : H x = none) (nd : H dx = none) (ne : dx ≠ x) :
    spF K n F (.ref x :: vs) (upd (upd H dx (.own x)) x (.ins (He.ga K c0) dx [])) (fun v H2 => v = .non ∧ Q (.ref x) H2) fun cls d H' => W cls d σ H' := by
  have E : Ext H (upd (upd H dx (.own x)) x (.ins (He.ga K c0) dx [])) := (Ext.new nd).trans (.new (by rw [upd_ne (Ne.symm ne)]; exact nx))
  have RN := R.newIns (c0 := c0) nx nd ne
  have fx : ¬ Excl B ρ env σ x := R.fresh nx
  refine ⟨Outer B env σ, ρ ++ [x], st ++ [.ins c0 [] []], .gl st.length :: vl, RN, .cons ?_ (RVs.carry (fun a o e n => ?_) (fun a o e _ => E a o e) (List.prefix_append ρ [x]) _ _ r), by rw [List.length_cons]; exact hn, ?_⟩
  · unfold RV
    refine ⟨x, rfl, ?_⟩
    rw [List.getElem?_append_right (by rw [R.lenC]; exact Nat.le_refl _), R.lenC, Nat.sub_self]
    rfl
  · rw [← excl_outer]
    rcases n with n | n | n
    · exact .inl n
    · rcases List.mem_append.mp n with n | n
      · exact .inr (.inl n)
      · rw [List.mem_singleton.mp n, nx] at e
        cases e
    · exact .inr (.inr n)
  · unfold makF at h
    cases hF : F (.gl st.length :: vl) (st ++ [.ins c0 [] []]) with
    | stuck => rw [hF] at h; exact h.elim
    | exc y st' =>
      rw [hF] at h
      dsimp only at h
      split at h
      · rename_i hc
        intro ρ' H' cls d E2 hx
        obtain ⟨rfl, E3⟩ := R.letGo nx nd ne E2 hc.1.1 hc.1.2
        refine h ρ H' cls d E3 ⟨hx.1, hx.2.imp id ?_⟩
        rintro ⟨dd, fvs, e0, e1, e2, en, e3, e4⟩
        have up : ∀ a, Excl B ρ env σ a → Excl (Outer B env σ) (ρ ++ [x]) [] [] a := fun a n => by
          rw [excl_outer]
          rcases n with n | n | n
          · exact .inl n
          · exact .inr (.inl (List.mem_append_left _ n))
          · exact .inr (.inr n)
        exact ⟨dd, fvs, e0, e1, e2, fun z => en (up dd z), e3, RVs.unpush (List.prefix_append ρ [x]) _ _ (by rw [R.lenC]; exact hc.2) (RVs.carry (fun a o _ n => up a n) (fun _ _ e _ => e) List.prefix_rfl _ _ e4)⟩
      · exact h.elim
    | ok v st' =>
      rw [hF] at h
      cases v with
      | non =>
        dsimp only at h
        split at h
        · rename_i hc
          cases ec : st'[st.length]? with
          | none => rw [ec] at h; exact h.elim
          | some cl =>
            rw [ec] at h
            cases cl with
            | lst _ => exact h.elim
            | dead => exact h.elim
            | dk _ => exact h.elim
            | dt _ => exact h.elim
            | tbl _ _ => exact h.elim
            | ins c ns ws =>
              dsimp only at h
              split at h
              · rename_i hd
                obtain ⟨e1, e2⟩ := hd
                subst e1
                intro ρ' H' E2 u ru
                obtain ⟨rfl, E3⟩ := R.letGo nx nd ne E2 hc.1 hc.2
                refine ⟨rv_non ru, h ρ H' E3 (.ref x) ?_⟩
                obtain ⟨dx', vs', q1, q2, q3, q4, q5⟩ := E2.rep.cell st.length _ x ec (by rw [List.getElem?_append_right (by rw [R.lenC]; exact Nat.le_refl _), R.lenC, Nat.sub_self]; rfl)
                refine mk_ins ⟨fx, q4, dx', q1⟩ (RVs.unpush (List.prefix_append ρ [x]) _ _ (by rw [R.lenC]; exact e2) (RVs.carry (fun a o _ n => ?_) (fun _ _ e _ => e) List.prefix_rfl _ _ q5))
                rw [excl_outer]
                rcases n with n | n | n
                · exact .inl n
                · exact .inr (.inl (List.mem_append_left _ n))
                · exact .inr (.inr n)
              · exact h.elim
        · exact h.elim
      | _ => exact h.elim
end
end PL
/-! PLu: C(e, .., k = v, ..) with defaults. -/
namespace PL
variable {Zg : Prop}
open PySem PySem.Spec L2
/-- where a parameter's value comes from -/
inductive Src where
  | pos (i : Nat)
  | dfl (i : Nat)
  | kw (i : Nat)
def Src.get {α : Type} (s : Src) (us ds ws : List α) : Option α := match s with
  | .pos i => us[i]?
  | .dfl i => ds[i]?
  | .kw i => ws[i]?
def plan {α : Type} (l : List Src) (us ds ws : List α) : List α := l.filterMap fun s => s.get us ds ws
theorem vals_get {vs : List V} {us : List Value} (r : Vals vs us) (i : Nat) : (vs[i]? = none ∧ us[i]? = none) ∨ ∃ v u, vs[i]? = some v ∧ us[i]? = some u ∧ RelV v u := by
  induction r generalizing i with
  | nil => exact .inl ⟨rfl, rfl⟩
  | cons h t ih =>
    cases i with
    | zero => exact .inr ⟨_, _, rfl, rfl, h⟩
    | succ i => simpa using ih i
theorem plan_vals {l : List Src} {vs ds zs : List V} {us its ws : List Value} (r1 : Vals vs us) (r2 : Vals ds its) (r3 : Vals zs ws) : Vals (plan l vs ds zs) (plan l us its ws) := by
  induction l with
  | nil => exact .nil
  | cons s l ih =>
    have q : (s.get vs ds zs = none ∧ s.get us its ws = none) ∨ ∃ v u, s.get vs ds zs = some v ∧ s.get us its ws = some u ∧ RelV v u := by
      cases s with
      | pos i => exact vals_get r1 i
      | dfl i => exact vals_get r2 i
      | kw i => exact vals_get r3 i
    unfold plan at ih ⊢
    rcases q with ⟨e1, e2⟩ | ⟨v, u, e1, e2, r⟩
    · rw [List.filterMap_cons_none (f := fun s : Src => s.get vs ds zs) e1, List.filterMap_cons_none (f := fun s : Src => s.get us its ws) e2]
      exact ih
    · rw [List.filterMap_cons_some (f := fun s : Src => s.get vs ds zs) e1, List.filterMap_cons_some (f := fun s : Src => s.get us its ws) e2]
      exact .cons r ih
section
variable {K : PySem.W.Frag} {N : Addr → Prop} {ρ : List Addr} {H : Hp}
theorem rvs_get {ps : List PV} {vs : List V} (r : RVs K N ρ H ps vs) (i : Nat) : (ps[i]? = none ∧ vs[i]? = none) ∨ ∃ p v, ps[i]? = some p ∧ vs[i]? = some v ∧ RV K N ρ H p v := by
  cases e : ps[i]? with
  | none => exact .inl ⟨rfl, List.getElem?_eq_none (by rw [r.len]; exact List.getElem?_eq_none_iff.mp e)⟩
  | some p =>
    obtain ⟨v, h1, h2⟩ := r.get e
    exact .inr ⟨p, v, rfl, h1, h2⟩
theorem plan_rvs {l : List Src} {p1 p2 p3 : List PV} {v1 v2 v3 : List V} (r1 : RVs K N ρ H p1 v1) (r2 : RVs K N ρ H p2 v2) (r3 : RVs K N ρ H p3 v3) : RVs K N ρ H (plan l p1 p2 p3) (plan l v1 v2 v3) := by
  induction l with
  | nil => exact .nil
  | cons s l ih =>
    have q : (s.get p1 p2 p3 = none ∧ s.get v1 v2 v3 = none) ∨ ∃ p v, s.get p1 p2 p3 = some p ∧ s.get v1 v2 v3 = some v ∧ RV K N ρ H p v := by
      cases s with
      | pos i => exact rvs_get r1 i
      | dfl i => exact rvs_get r2 i
      | kw i => exact rvs_get r3 i
    unfold plan at ih ⊢
    rcases q with ⟨e1, e2⟩ | ⟨p, v, e1, e2, r⟩
    · rw [List.filterMap_cons_none (f := fun s : Src => s.get p1 p2 p3) e1, List.filterMap_cons_none (f := fun s : Src => s.get v1 v2 v3) e2]
      exact ih
    · rw [List.filterMap_cons_some (f := fun s : Src => s.get p1 p2 p3) e1, List.filterMap_cons_some (f := fun s : Src => s.get v1 v2 v3) e2]
      exact .cons r ih
end
/-- the defaults' values, as values of any heap -/
def Dfl (K : PySem.W.Frag) (dps : List PV) (dvs : List V) : Prop := ∀ (N : Addr → Prop) ρ H, RVs K N ρ H dps dvs
/-- a class by its name, its __init__ (ps: self too) -/
def Maker (Zg : Prop) (P : Program) (w : World) (K : PySem.W.Frag) (mg : Str → Option Value) (base : Heap) (k : Nat) (x : Str) (ps : List Str) (dps : List PV) (F : Fn) (sh : List (Nat × List Str × List Src)) : Prop :=
  ∃ f fd dvs, FnG Zg P w K mg base k f fd ps (spF K ps.length F) ∧ mg x = some (.ref (He.ga K x)) ∧ Mk K (He.ga K x) f ∧ Dfl K dps dvs ∧
    ∀ q ∈ sh, ∃ its : List Value, KBn K fd ps (q.1 + 1) q.2.1 (fun us ws => plan (.pos 0 :: q.2.2) us its ws) (fun vs zs => plan (.pos 0 :: q.2.2) vs dvs zs)
theorem Maker.mono {P : Program} {w : World} {K : PySem.W.Frag} {mg : Str → Option Value} {base : Heap} {j k : Nat} {x : Str} {ps : List Str} {dps : List PV} {F : Fn} {sh : List (Nat × List Str × List Src)} (c : Maker Zg P w K mg base j x ps dps F sh) (h : j ≤ k) : Maker Zg P w K mg base k x ps dps F sh := by
  obtain ⟨f, fd, dvs, c1, c2⟩ := c
  exact ⟨f, fd, dvs, c1.mono h, c2⟩
/-- keywords' values -/
def MK (X : Cx) (W : WX) (kws : List Keyword) (f : EF (List PV)) : Prop := ∃ t, PK X kws t ∧ ∀ B ρ env st σ H Q, Rep X.K B ρ env st σ H →
  ROk X.K W B ρ env σ H (f env st) (fun l ρ' st' H' => ∀ us, RVs X.K (Excl B ρ' env σ) ρ' H' l us → Q us H') → t σ H Q
/-- C(..): shape l: where each parameter (self left out) comes from -/
def eMake (c0 : Str) (F : Fn) (n m len : Nat) (dps : List PV) (l : List Src) (a gk : EF (List PV)) : EF PV := fun e st => (a e st).bind fun xs st => (gk e st).bind fun zs st =>
  if (xs.length = n ∧ zs.length = m) ∧ (plan l (.non :: xs) dps zs).length + 1 = len then makF c0 F (plan l (.non :: xs) dps zs) st else .stuck
theorem plan_self {α : Type} {l : List Src} (h : l.all (fun s => match s with | .pos 0 => false | _ => true) = true) {x y : α} {us ds ws : List α} : plan l (x :: us) ds ws = plan l (y :: us) ds ws := by
  induction l with
  | nil => rfl
  | cons s l ih =>
    rw [List.all_cons, Bool.and_eq_true] at h
    have q : s.get (x :: us) ds ws = s.get (y :: us) ds ws := by
      cases s with
      | pos i =>
        cases i with
        | zero => exact absurd h.1 (by simp)
        | succ i => rfl
      | dfl i => rfl
      | kw i => rfl
    unfold plan at ih ⊢
    rw [List.filterMap_cons, List.filterMap_cons, q, ih h.2]
section
variable {X : Cx} {W : WX} {k n : Nat} {c0 : Str} {ps ks : List Str} {dps : List PV} {F : Fn} {sh : List (Nat × List Str × List Src)} {l : List Src} {p pos : Pos} {e : Expr} {es : List Expr} {kws : List Keyword} {g gk : EF (List PV)} {nm : Option Str} {kpos : Pos} {fe : EF PV}
theorem mk_nil : MK X W [] aNil := ⟨tNil, pk_nil, fun B ρ env st σ H Q R h => h ρ H (.refl R) _ .nil⟩
theorem under_make {A : Around} {C : Addr} {us : List Value} {kw : List (Str × Value)} (h : A.guards = some []) : (A.under (.builtin "type.__call__" ⟨.ref C :: us, kw⟩)).guards = some [] := by
  have e : (Code.builtin "type.__call__" ⟨.ref C :: us, kw⟩).guards = [] := by
    have q : (Code.builtin "type.__call__" ⟨.ref C :: us, kw⟩).isGuard = false := by
      show guardIds.contains "type.__call__" = false
      decide
    unfold Code.guards
    rw [q]
    rfl
  show pushGuards (Code.builtin "type.__call__" ⟨.ref C :: us, kw⟩).guards A.guards = some []
  rw [e]
  exact h
theorem run_makeG {pins : List (Addr × Obj)} {σ : L2.St} {H : Hp} {s : Shared} {Q : VK} {us ws : List Value} {vs zs : List V} {C f : Addr} {fd : FuncData} {sp : Sp} {gg : List Value → List Value → List Value} {gV : List V → List V → List V}
    (M : Mk X.K C f) (G : FnG Zg X.prog X.w X.K X.mg X.base k f fd ps sp) (hr : Room (k + 1) X.A) (hgd : Zg → X.A.guards = some []) (hb : KBn X.K fd ps (n + 1) ks gg gV)
    (tk : Takes X W) (I : Inv X pins σ H s) (r : Vals vs us) (rz : Vals zs ws) (l1 : vs.length = n) (l2 : zs.length = ks.length)
    (h : ∀ x dx, H x = none → H dx = none → dx ≠ x → sp (gV (.ref x :: vs) zs) (upd (upd H dx (.own x)) x (.ins C dx [])) (fun v H2 => v = .non ∧ Q (.ref x) H2) fun cls d H' => W cls d σ H') :
    wpAny (model X.prog X.w) X.A (call (.ref C) us (ks.zip ws)) (EP X pins σ Q) X.xe s := by
  have hq := h (s.heap.objs.size + 1) s.heap.objs.size (I.hok.fresh (Nat.le_succ _)) (I.hok.fresh (Nat.le_refl _)) (Nat.ne_of_lt (Nat.lt_succ_self _))
  have I2 := Inv.made (C := C) I
  have r1 : Vals (V.ref (s.heap.objs.size + 1) :: vs) (Value.ref (s.heap.objs.size + 1) :: us) := .cons rfl r
  have r2 := hb.rel r1 rz
  have n1 : (Value.ref (s.heap.objs.size + 1) :: us).length = n + 1 := by
    rw [List.length_cons, ← r.length, l1]
  refine wpAny_call (make_map (f := f) I.kIn M.makes M.init (beq_iff_eq.mp M.fn) (codeAny_mono (G.run _ X.stack _ _ ⟨Value.ref (s.heap.objs.size + 1) :: us, ks.zip ws⟩ (gg (Value.ref (s.heap.objs.size + 1) :: us) ws) _ _ _ (hr.make C us (ks.zip ws)) (fun z => under_make (hgd z))
    (I2.env0.make C us (ks.zip ws)) (hb.to _ (Value.ref (s.heap.objs.size + 1) :: us) ws I2.kIn n1 (rz.length.symm.trans l2)) r2 hq) fun r s' hq' => ?_))
  cases r with
  | error e => exact tk e s' (XE.of_call I2 (fun _ _ _ h => h) hq')
  | ok fl =>
    cases fl with
    | ret u =>
      obtain ⟨v, H', I3, rv, ev, q3⟩ := I2.after hq'
      subst ev
      exact ⟨rv, ⟨V.ref (s.heap.objs.size + 1), H', I3, rfl, q3⟩⟩
    | next => exact False.elim hq'
    | brk => exact False.elim hq'
    | cont => exact False.elim hq'
/-- what the values have to be -/
def tMakeG (C : Addr) (W : WX) (n m : Nat) (sp : Sp) (gV : List V → List V → List V) (t tk : TA) : TE := fun σ H Q => t σ H fun vs H1 => tk σ H1 fun zs H2 => (vs.length = n ∧ zs.length = m) ∧
  ∀ x dx, H2 x = none → H2 dx = none → dx ≠ x → sp (gV (.ref x :: vs) zs) (upd (upd H2 dx (.own x)) x (.ins C dx [])) (fun v H3 => v = .non ∧ Q (.ref x) H3) fun cls d H' => W cls d σ H'
theorem ref_make {t tk : TA} {dvs : List V} (hl : l.all (fun s => match s with | .pos 0 => false | _ => true) = true) (hd : Dfl X.K dps dvs)
    (qa : ∀ B ρ env st σ H Q, Rep X.K B ρ env st σ H → ROk X.K W B ρ env σ H (g env st) (fun l ρ' st' H' => ∀ us, RVs X.K (Excl B ρ' env σ) ρ' H' l us → Q us H') → t σ H Q)
    (qk : ∀ B ρ env st σ H Q, Rep X.K B ρ env st σ H → ROk X.K W B ρ env σ H (gk env st) (fun l ρ' st' H' => ∀ us, RVs X.K (Excl B ρ' env σ) ρ' H' l us → Q us H') → tk σ H Q) :
    RefG X.K W (tMakeG (He.ga X.K c0) W n ks.length (spF X.K ps.length F) (fun vs zs => plan (.pos 0 :: l) vs dvs zs) t tk) (eMake c0 F n ks.length ps.length dps l g gk) (RV X.K) := by
  intro B ρ env st σ H Q R h
  refine qa B ρ env st σ H _ R (ROk.mono (ROk.bind h) fun xs ρ1 st1 H1 E1 h1 vs rvs => ?_)
  refine qk B ρ1 env st1 σ H1 _ E1.rep (ROk.mono (ROk.bind h1) fun zs ρ2 st2 H2 E2 h2 ws rws => ?_)
  split at h2
  · rename_i hc
    have rv2 := E2.post.rvs rvs
    refine ⟨⟨rvs.len.trans hc.1.1, rws.len.trans hc.1.2⟩, fun x dx nx nd ne => ?_⟩
    have e : plan (.pos 0 :: l) (.ref x :: vs) dvs ws = .ref x :: plan l (.non :: vs) dvs ws := by
      show (V.ref x) :: plan l (.ref x :: vs) dvs ws = _
      rw [plan_self hl]
    rw [show (fun vs zs => plan (.pos 0 :: l) vs dvs zs) (V.ref x :: vs) ws = .ref x :: plan l (.non :: vs) dvs ws from e]
    exact spF_make (W := W) E2.rep (plan_rvs (RVs.cons mk_non rv2) (hd _ _ _) rws) hc.2 h2 x dx nx nd ne
  · exact h2.elim
variable (hl : l.all (fun s => match s with | .pos 0 => false | _ => true) = true)
/-- C(e, .., k = v, ..) -/
theorem m_make (c : Maker Zg X.prog X.w X.K X.mg X.base k c0 ps dps F sh) (hq : (n, ks, l) ∈ sh) (hl : l.all (fun s => match s with | .pos 0 => false | _ => true) = true) (hr : Room (k + 1) X.A) (hgd : Zg → X.A.guards = some []) (tk : Takes X W) (hg : Gl X c0)
    (ha : MA X W (e :: es) g) (hkw : MK X W kws gk) (hall : (backToKw pos (keywordEach kws X.env)).all (·.1.isSome) = true := by rfl) (hks : (backToKw pos (keywordEach kws X.env)).filterMap (·.1) = ks := by rfl)
    (hdb : (c0 == ("__debug__" : Str)) = false := by decide) (he : starEach (e :: es) X.env = (false, eval e X.env) :: starEach es X.env := by rfl)
    (hpl : ((backTo pos (starEach (e :: es) X.env)).any (·.1) || (backToKw pos (keywordEach kws X.env)).any (·.1.isNone)) = false := by rfl) :
    ME X W (.Call (.Name c0 p) (e :: es) kws pos) (eMake c0 F n ks.length ps.length dps l g gk) := by
  obtain ⟨f, fd, dvs, G, hm, M, hd, hs⟩ := c
  obtain ⟨its, kb⟩ := hs _ hq
  obtain ⟨ta, pa, qa⟩ := ha
  obtain ⟨tk', pk, qk⟩ := hkw
  refine ⟨_, ⟨fun pins s σ H Q I h => ?_⟩, ref_make hl hd qa qk⟩
  refine wpAny_Call_Name_kw (ld_glob I hg hm ?_ hdb)
  refine PySem.W.callWith_KW (h₀ := X.base) I.ok.mod.kin M.kp hall (thn (pa.run pos pins s σ H _ I h) fun us s1 ⟨vs, H1, I1, r, q⟩ => ?_) hpl he
  refine thn (pk.run pos pins s1 σ H1 _ I1 q) fun ws s2 ⟨zs, H2, I2, rz, l12, q2⟩ => ⟨I2.kIn, ?_⟩
  rw [hks]
  exact run_makeG M G hr hgd kb tk I2 r rz l12.1 l12.2 q2
end
end PL
/-! PLv: o.f = value, several at once; a class's constant; a class's own classmethod-free names. -/
namespace PL
open PySem PySem.Spec L2
section
variable {K : PySem.W.Frag} {B : Addr → Prop} {ρ : List Addr} {env : Env} {st : Sto} {σ : L2.St} {H : Hp}
/-- a thing of the store is written -/
theorem Rep.cellPut (R : Rep K B ρ env st σ H) {n : Nat} {c c' : Cell} {a : Addr} {o : HO} (e : st[n]? = some c) (ea : ρ[n]? = some a) (hc : CellOk K (Excl B ρ env σ) ρ (upd H a o) c' a) :
    Post K B ρ env σ H ρ env (st.set n c') σ (upd H a o) := by
  have hn : n < st.length := (List.getElem?_eq_some_iff.mp e).1
  have ra : a ∈ ρ := List.mem_of_getElem? ea
  have k1 : ∀ b u, H b = some u → ¬ Excl B ρ env σ b → (upd H a o) b = some u := fun b u h n => by
    rw [upd_ne (fun z => n (by rw [z]; exact .inr (.inl ra)))]
    exact h
  have tr : ∀ b, H b ≠ none → (upd H a o) b ≠ none := fun b h => by
    by_cases hb : b = a
    · rw [hb, upd_same]
      exact fun z => by cases z
    · rw [upd_ne hb]
      exact h
  refine ⟨⟨R.lenE, by rw [List.length_set]; exact R.lenC, R.nd, fun k c2 b h1 h2 => ?_, fun b h => tr b (R.rT b h), R.rB, fun b h => (R.bN b h).keep fun o e => by rw [upd_ne (fun z => R.rB a ra (by rw [← z]; exact h))]; exact e, fun j ev h => ?_, R.oR, R.sep⟩,
    List.prefix_rfl, fun b u h n _ => ?_, tr, fun _ h n => absurd h n, fun b h => .inl h⟩
  · by_cases hk : n = k
    · subst hk
      rw [List.getElem?_set_self hn] at h1
      cases h1
      rw [ea] at h2
      cases h2
      exact hc
    · rw [List.getElem?_set_ne hk] at h1
      have q := R.cell k c2 b h1 h2
      have nb : b ≠ a := fun z => hk (by
        subst z
        obtain ⟨g1, e1⟩ := List.getElem?_eq_some_iff.mp ea
        obtain ⟨g2, e2⟩ := List.getElem?_eq_some_iff.mp h2
        exact (List.getElem_inj R.nd).mp (e1.trans e2.symm))
      exact q.carry (fun _ _ _ z => z) k1 List.prefix_rfl fun o q1 => by rw [upd_ne nb]; exact q1
  · have q := R.slot j ev h
    cases ev with
    | non => trivial
    | val p =>
      obtain ⟨v, q1, q2⟩ := q
      exact ⟨v, q1, RV.carry (fun _ _ _ z => z) k1 List.prefix_rfl _ _ q2⟩
    | own k =>
      obtain ⟨b, xs, q0, q1, q2, q3⟩ := q
      have nb : b ≠ a := fun z => (R.oR b ⟨j, k, h, q0⟩).1 (by rw [z]; exact ra)
      exact ⟨b, xs, q0, by rw [upd_ne nb]; exact q1, q2, RVs.carry (fun _ _ _ z => z) k1 List.prefix_rfl _ _ q3⟩
  · rw [upd_ne (fun z => n (by rw [z]; exact ra))]
    exact h
end
def putNs (f : Str) (ns : List Str) : List Str := match ns with
  | [] => [f]
  | g :: r => if g = f then g :: r else g :: putNs f r
def putVs {α : Type} (f : Str) (v : α) : List Str → List α → List α
  | [], _ => [v]
  | g :: r, x :: xs => if g = f then v :: xs else x :: putVs f v r xs
  | _ :: _, [] => []
theorem put_zip {f : Str} {v : V} : ∀ {ns : List Str} {ws : List V}, ws.length = ns.length → putF f v (ns.zip ws) = (putNs f ns).zip (putVs f v ns ws) ∧ (putVs f v ns ws).length = (putNs f ns).length
  | [], [], _ => ⟨rfl, rfl⟩
  | [], _ :: _, h => by cases h
  | _ :: _, [], h => by cases h
  | g :: r, x :: xs, h => by
    obtain ⟨h1, h2⟩ := put_zip (f := f) (v := v) (ns := r) (ws := xs) (by simpa using h)
    rw [List.zip_cons_cons]
    unfold putF putNs putVs
    by_cases e : g = f
    · subst e
      simp only [if_pos rfl]
      exact ⟨rfl, by simpa using h⟩
    · simp only [if_neg e]
      rw [h1, List.zip_cons_cons, List.length_cons, List.length_cons, h2]
      exact ⟨rfl, rfl⟩
theorem RVs.putVs {K : PySem.W.Frag} {N : Addr → Prop} {ρ : List Addr} {H : Hp} {f : Str} {p : PV} {v : V} (r : RV K N ρ H p v) : ∀ {ns : List Str} {vs : List PV} {ws : List V}, RVs K N ρ H vs ws → RVs K N ρ H (putVs f p ns vs) (putVs f v ns ws)
  | [], vs, ws, h => by
    show RVs K N ρ H [p] [v]
    exact .cons r .nil
  | g :: ns, [], ws, h => by
    have := h.unnil
    subst this
    exact .nil
  | g :: ns, q :: vs, ws, h => by
    obtain ⟨w, ws', rfl, h1, h2⟩ := h.uncons
    unfold PL.putVs
    by_cases e : g = f
    · rw [if_pos e, if_pos e]
      exact .cons r h2
    · rw [if_neg e, if_neg e]
      exact .cons h1 (RVs.putVs r h2)
def fldSet (c0 f : Str) (st : Sto) (o p : PV) : Option Sto := match o with
  | .gl n => match st[n]? with
    | some (.ins c ns vs) => if c = c0 ∧ ns.length < 1000 then some (st.set n (.ins c (putNs f ns) (putVs f p ns vs))) else none
    | _ => none
  | _ => none
theorem Rep.fldPut {K : PySem.W.Frag} {B : Addr → Prop} {ρ : List Addr} {env : Env} {st st' : Sto} {σ : L2.St} {H : Hp} (R : Rep K B ρ env st σ H) {c0 f : Str} {o p : PV} {u v : V} (ro : RV K (Excl B ρ env σ) ρ H o u) (rp : RV K (Excl B ρ env σ) ρ H p v) (h : fldSet c0 f st o p = some st') :
    ∃ a dx fs, u = .ref a ∧ H a = some (.ins (He.ga K c0) dx fs) ∧ fs.length < 1000 ∧ Post K B ρ env σ H ρ env st' σ (upd H a (.ins (He.ga K c0) dx (putF f v fs))) := by
  cases o with
  | gl n =>
    obtain ⟨a, rfl, hn⟩ := rv_gl ro
    have h2 : (match st[n]? with
      | some (.ins c ns vs) => if c = c0 ∧ ns.length < 1000 then some (st.set n (.ins c (putNs f ns) (putVs f p ns vs))) else none
      | _ => none) = some st' := h
    cases e : st[n]? with
    | none => rw [e] at h2; cases h2
    | some cl =>
      rw [e] at h2
      cases cl with
      | lst _ => cases h2
      | dead => cases h2
      | dk _ => cases h2
      | dt _ => cases h2
      | tbl _ _ => cases h2
      | ins c ns vs =>
        dsimp only at h2
        split at h2
        · rename_i hc
          obtain ⟨ec, hl⟩ := hc
          subst ec
          have h := (Option.some.inj h2).symm
          subst h
          obtain ⟨dx, ws, q1, q2, q3, q4, q5⟩ := R.cell n _ a e hn
          have ne : dx ≠ a := fun z => by rw [z, q1] at q3; cases q3
          obtain ⟨z1, z2⟩ := put_zip (f := f) (v := v) q4
          refine ⟨a, dx, _, rfl, q1, by rw [List.length_zip]; omega, R.cellPut e hn ?_⟩
          have ra : a ∈ ρ := List.mem_of_getElem? hn
          refine ⟨dx, putVs f v ns ws, by rw [upd_same, z1], q2, by rw [upd_ne ne]; exact q3, z2, RVs.carry (fun _ _ _ z => z) (fun b o e n => by rw [upd_ne (fun z => n (by rw [z]; exact .inr (.inl ra)))]; exact e) List.prefix_rfl _ _ (RVs.putVs rp q5)⟩
        · cases h2
  | _ => cases h
/-! ### targets that may write the store -/
abbrev GF := PV → Env → Sto → RS
def gxFld (c0 f : Str) (o : EF PV) : GF := fun p e st => (o e st).toS e fun ov st => match fldSet c0 f st ov p with
  | some st' => .nx e st'
  | none => .stuck
def gxName (i : Nat) : GF := fun p e st => match bName i p e with
  | some e1 => .nx e1 st
  | none => .stuck
def gxSeq : List GF → List PV → Env → Sto → RS
  | [], [], e, st => .nx e st
  | g :: gs, p :: ps, e, st => (g p e st).thn fun e st => gxSeq gs ps e st
  | _, _, _, _ => .stuck
def gxTup (gs : List GF) : GF := fun p e st => match p with
  | .tup l => if l.length = gs.length then gxSeq gs l e st else .stuck
  | _ => .stuck
def sAsgX (g : GF) (a : EF PV) : SF := fun e st => (a e st).toS e fun v st => g v e st
/-- the ends of a target -/
def onlyNx (Q : L2.St → Hp → Prop) : Ends := { nx := Q, rt := fun _ _ => False, bk := fun _ _ => False, ct := fun _ _ => False }
def MX (X : Cx) (W : WX) (tg : Expr) (g : GF) : Prop := ∃ t : TG, PG X tg t ∧ ∀ B ρ env st σ H p v Q, Rep X.K B ρ env st σ H → RV X.K (Excl B ρ env σ) ρ H p v → SOk X.K W B ρ env σ H (g p env st) (onlyNx Q) → t v σ H Q
def MXs (X : Cx) (W : WX) (tgs : List Expr) (gs : List GF) : Prop := ∃ t : TGs, PGs X tgs t ∧ ∀ B ρ env st σ H ps vs Q, Rep X.K B ρ env st σ H → RVs X.K (Excl B ρ env σ) ρ H ps vs → ps.length = gs.length → SOk X.K W B ρ env σ H (gxSeq gs ps env st) (onlyNx Q) → t vs σ H Q
section
variable {X : Cx} {W : WX} {o e tg : Expr} {tgs : List Expr} {fo fe : EF PV} {g : GF} {gs : List GF} {c0 f : Str} {pos pos' : Pos}
/-- o.f = .. -/
def gFld (K : PySem.W.Frag) (to : TE) (f : Str) : TG := fun v σ H Q => to σ H fun x H1 => ∃ a C dx fs, x = .ref a ∧ H1 a = some (.ins C dx fs) ∧ Cls K C ∧ NoAttr K C f ∧ fs.length < 1000 ∧ Q σ (upd H1 a (.ins C dx (putF f v fs)))
theorem pg_fld {to : TE} (ho : PE X o to) : PG X (.Attribute o f pos) (gFld X.K to f) := by
  refine ⟨fun pins s σ H v u Q I r h => ?_⟩
  show wpAny (model X.prog X.w) X.A (do
    let ov ← holding [u] (eval o X.env)
    standAt pos.atName
    holding [u, ov] (setAttr ov f u)
    release [u, ov] []) _ _ _
  refine wpAny_bind (wpAny_holding (thn (ho.run pins s σ H _ I h) fun ov s1 ⟨x, H1, I1, r1, a, C, dx, fs, ex, ea, c, n, hl, q1⟩ => ?_))
  subst ex
  obtain rfl : ov = Value.ref a := r1
  refine wpAny_bind (wpAny_standAt (wpAny_bind (wpAny_holding (setattr_ok I1 ea c n hl r fun s2 I2 => ?_))))
  exact wpAny_release ⟨σ, _, I2, q1⟩
theorem mx_fld (h : ME X W o fo) (c : Cls X.K (He.ga X.K c0)) (n : NoAttr X.K (He.ga X.K c0) f) : MX X W (.Attribute o f pos) (gxFld c0 f fo) := by
  obtain ⟨t, p, q⟩ := h
  refine ⟨_, pg_fld p, fun B ρ env st σ H pv v Q R r h => ?_⟩
  refine q B ρ env st σ H _ R (ROk.mono (SOk.toS h) fun ov ρ1 st1 H1 E1 h1 u ru => ?_)
  cases es : fldSet c0 f st1 ov pv with
  | none => rw [es] at h1; exact h1.elim
  | some st' =>
    rw [es] at h1
    obtain ⟨a, dx, fs, rfl, e1, e2, P⟩ := E1.rep.fldPut ru (E1.post.rv r) es
    exact ⟨a, _, dx, fs, rfl, e1, c, n, e2, h1 _ _ _ P⟩
theorem mxs_nil : MXs X W [] [] := by
  refine ⟨_, pgs_nil, fun B ρ env st σ H ps vs Q R r hl h => ?_⟩
  cases ps with
  | nil =>
    have e := r.unnil
    subst e
    exact ⟨rfl, h ρ σ H (.refl R)⟩
  | cons _ _ => cases hl
theorem sok_thn {K : PySem.W.Frag} {B : Addr → Prop} {ρ : List Addr} {env : Env} {σ : L2.St} {H : Hp} {r : RS} {g : Env → Sto → RS} {Q : L2.St → Hp → Prop} (h : SOk K W B ρ env σ H (r.thn g) (onlyNx Q)) :
    (∃ e' st', r = .nx e' st' ∧ ∀ ρ' σ' H', Post K B ρ env σ H ρ' e' st' σ' H' → SOk K W B ρ' e' σ' H' (g e' st') (onlyNx Q)) ∨ (SOk K W B ρ env σ H r (onlyNx Q) ∧ ∀ e' st', r ≠ .nx e' st') := by
  cases r with
  | nx e' st' => exact .inl ⟨e', st', rfl, fun ρ' σ' H' P => SOk.shift P h⟩
  | rt v st' => exact .inr ⟨h, fun _ _ z => by cases z⟩
  | bk e st' => exact .inr ⟨h, fun _ _ z => by cases z⟩
  | ct e st' => exact .inr ⟨h, fun _ _ z => by cases z⟩
  | exc x e st' => exact .inr ⟨h, fun _ _ z => by cases z⟩
  | stuck => exact .inr ⟨h, fun _ _ z => by cases z⟩
theorem mxs_cons (h1 : MX X W tg g) (h2 : MXs X W tgs gs) (hs : (assignEach (tg :: tgs) X.env).map (·.2) = assign tg X.env :: (assignEach tgs X.env).map (·.2) := by rfl) : MXs X W (tg :: tgs) (g :: gs) := by
  obtain ⟨t1, p1, q1⟩ := h1
  obtain ⟨t2, p2, q2⟩ := h2
  refine ⟨_, pgs_cons p1 p2 hs, fun B ρ env st σ H ps vs Q R r hl h => ?_⟩
  cases ps with
  | nil => cases hl
  | cons p ps =>
    obtain ⟨v, vs', rfl, r1, r2⟩ := r.uncons
    have h : SOk X.K W B ρ env σ H ((g p env st).thn fun e st => gxSeq gs ps e st) (onlyNx Q) := h
    refine ⟨v, vs', rfl, q1 B ρ env st σ H p v _ R r1 ?_⟩
    rcases sok_thn h with ⟨e', st', er, h'⟩ | ⟨h', ne⟩
    · rw [er]
      exact fun ρ' σ' H' P => q2 B ρ' e' st' σ' H' ps vs' Q P.rep (P.rvs r2) (by simpa using hl) (h' ρ' σ' H' P)
    · cases er : g p env st with
      | nx e' st' => exact absurd er (ne _ _)
      | rt v st' => rw [er] at h'; exact fun ρ' e' σ' H' u P r => (h' ρ' e' σ' H' u P r).elim
      | bk e st' => rw [er] at h'; exact fun ρ' σ' H' P => (h' ρ' σ' H' P).elim
      | ct e st' => rw [er] at h'; exact fun ρ' σ' H' P => (h' ρ' σ' H' P).elim
      | exc x e st' => rw [er] at h'; exact h'
      | stuck => rw [er] at h'; exact h'.elim
theorem mx_tup {k : Nat} (hc : X.calm = true) (h : MXs X W tgs gs) (hn : (assignEach tgs X.env).length = gs.length := by rfl) (hst : (assignEach tgs X.env).findIdx? (·.1) = none := by rfl) : MX X W (.Tuple tgs k pos) (gxTup gs) := by
  obtain ⟨t, p, q⟩ := h
  refine ⟨_, pg_tup hc p hn hst, fun B ρ env st σ H pv v Q R r h => ?_⟩
  cases pv with
  | tup l =>
    obtain ⟨a, xs, rfl, e1, e2, rl⟩ := rv_tup r
    have h : SOk X.K W B ρ env σ H (if l.length = gs.length then gxSeq gs l env st else .stuck) (onlyNx Q) := h
    split at h
    · rename_i hl
      exact ⟨a, xs, rfl, e1.sq, by rw [rl.len]; exact hl, q B ρ env st σ H l xs Q R rl hl h⟩
    · exact h.elim
  | _ => exact h.elim
theorem ms_asgX (h : ME X W e fe) (hg : MX X W tg g) (hs : swapsWithSole [tg] e pos.line X.env = pure false := by rfl) (hw : swappedStores [tg] e X.env = pure none := by rfl)
    (h1 : (assignEach [tg] X.env).map (·.2) = [assign tg X.env] := by rfl) (hx : ∀ p e st, (match g p e st with | .nx _ _ => true | .exc _ _ _ => true | .stuck => true | _ => false) = true) : MS X W (.Assign [tg] e pos) (sAsgX g fe) := by
  obtain ⟨t, p, q⟩ := h
  obtain ⟨t2, pg, qg⟩ := hg
  refine ⟨_, ps_asg p pg hs hw h1, fun B ρ env st σ H D R h => ?_⟩
  refine q B ρ env st σ H _ R (ROk.mono (SOk.toS h) fun v ρ1 st1 H1 E1 h1 u ru => ?_)
  refine qg B ρ1 env st1 σ H1 v u _ E1.rep ru ?_
  have z := hx v env st1
  cases e1 : g v env st1 with
  | nx e' st' => rw [e1] at h1; exact h1
  | exc x e' st' => rw [e1] at h1; exact h1
  | stuck => rw [e1] at h1; exact h1.elim
  | rt _ _ => rw [e1] at z; cases z
  | bk _ _ => rw [e1] at z; cases z
  | ct _ _ => rw [e1] at z; cases z
end
def GxOk (g : GF) : Prop := ∀ p e st, (match g p e st with | .nx _ _ => true | .exc _ _ _ => true | .stuck => true | _ => false) = true
theorem gxok_fld {c0 f : Str} {o : EF PV} : GxOk (gxFld c0 f o) := fun p e st => by
  unfold gxFld
  cases o e st with
  | ok a st' =>
    dsimp only [RE.toS]
    cases fldSet c0 f st' a p <;> rfl
  | exc _ _ => rfl
  | stuck => rfl
def GxOks (gs : List GF) : Prop := ∀ ps e st, (match gxSeq gs ps e st with | .nx _ _ => true | .exc _ _ _ => true | .stuck => true | _ => false) = true
theorem gxoks_nil : GxOks [] := fun ps e st => by
  cases ps <;> rfl
theorem gxoks_cons {g : GF} {gs : List GF} (h : GxOk g) (t : GxOks gs) : GxOks (g :: gs) := fun ps e st => by
  cases ps with
  | nil => rfl
  | cons p ps =>
    show (match (g p e st).thn fun e st => gxSeq gs ps e st with | .nx _ _ => true | .exc _ _ _ => true | .stuck => true | _ => false) = true
    have q := h p e st
    cases er : g p e st with
    | nx e' st' => exact t ps e' st'
    | exc _ _ _ => rfl
    | stuck => rfl
    | rt _ _ => rw [er] at q; cases q
    | bk _ _ => rw [er] at q; cases q
    | ct _ _ => rw [er] at q; cases q
theorem gxok_tup {gs : List GF} (h : GxOks gs) : GxOk (gxTup gs) := fun p e st => by
  cases p with
  | tup l =>
    show (match (if l.length = gs.length then gxSeq gs l e st else .stuck : RS) with | .nx _ _ => true | .exc _ _ _ => true | .stuck => true | _ => false) = true
    by_cases hl : l.length = gs.length
    · rw [if_pos hl]
      exact h l e st
    · rw [if_neg hl]
  | _ => rfl
end PL
/-! PLw: own classes: constants, isinstance, len, repr; texts. -/
namespace PL
variable {Zg : Prop}
open PySem PySem.Spec L2
/-! ### a method, run a step below, without exceptions -/
section
variable {X : Cx} {k : Nat} {f C a dx : Addr} {fs : List (Str × V)} {fd : FuncData} {ps : List Str} {sp : Sp}
theorem run1 {pins : List (Addr × Obj)} {σ : L2.St} {H : Hp} {s : Shared} {Q : VK} {us : List Value} {vs : List V} (G : FnG Zg X.prog X.w X.K X.mg X.base k f fd ps sp) (hr : Room (k + 1) X.A) (hgd : Zg → X.A.guards = some []) (hb : Binds X.K fd ps [])
    (I : Inv X pins σ H s) (r : Vals vs us) (h : sp vs H Q fun _ _ _ => False) : wpAny (model X.prog X.w) X.A.in1 (call (.ref f) us) (EP X pins σ Q) X.xe s := by
  have hl : (us ++ []).length = ps.length := by rw [List.append_nil, ← r.length]; exact G.len _ _ _ _ h
  have hb' := hb s us I.kIn hl
  rw [List.append_nil] at hb'
  refine wpAny_call (codeAny_mono (G.run X.A.in1 X.stack s H ⟨us, []⟩ us vs Q _ hr.in1 hgd I.env0.in1 hb' r h) fun r s' hq => ?_)
  cases r with
  | error e =>
    obtain ⟨_, _, _, _, _, _, _, _, _, _, _, _, z⟩ := hq
    exact z.elim
  | ok fl =>
    cases fl with
    | ret u => exact I.after hq
    | next => exact False.elim hq
    | brk => exact False.elim hq
    | cont => exact False.elim hq
/-- o, an instance of the class at C; sp its method's promise -/
def rOwn1 (C : Addr) (sp : Sp) (z : V → Prop) : List V → Hp → VK → Prop := fun xs H Q => ∃ a dx fs, xs = [.ref a] ∧ H a = some (.ins C dx fs) ∧ sp [.ref a] H (fun v H' => z v ∧ Q v H') fun _ _ _ => False
theorem call_lenO (hm : Meth X.K C "__len__" f) (G : FnG Zg X.prog X.w X.K X.mg X.base k f fd ps sp) (hr : Room (k + 1) X.A) (hgd : Zg → X.A.guards = some []) (hb : Binds X.K fd ps []) :
    CallR X (.builtin "len") (rOwn1 C sp fun v => ∃ n : Int, v = .int n ∧ 0 ≤ n ∧ n < 2 ^ 63) := by
  intro pins s σ H xs us Q I r h
  obtain ⟨a, dx, fs, rfl, ea, h⟩ := h
  obtain ⟨u, rfl, ru⟩ := vals1 r
  obtain rfl : u = Value.ref a := ru
  obtain ⟨mA, O, _⟩ := ins_get I.hok ea
  obtain ⟨od, J, _⟩ := O.look
  obtain ⟨m, F⟩ := I.fr
  refine PySem.W.len_K F I.mod.kin J hm.at_ hm.fn (wpAny_mono (run1 (vs := [.ref a]) (us := [.ref a]) G hr hgd hb I (.cons rfl .nil) h) (fun v s' ⟨x, H', I', rx, ⟨n, en, n1, n2⟩, q⟩ => ?_) fun _ _ y => y)
  subst en
  obtain ⟨t, rfl⟩ := rx
  exact ⟨⟨n1, n2⟩, .int n, H', I'.tok _, ⟨_, rfl⟩, q⟩
theorem call_reprO (hm : Meth X.K C "__repr__" f) (G : FnG Zg X.prog X.w X.K X.mg X.base k f fd ps sp) (hr : Room (k + 1) X.A) (hgd : Zg → X.A.guards = some []) (hb : Binds X.K fd ps []) :
    CallR X (.builtin "repr") (rOwn1 C sp fun v => ∃ n : Str, v = .str n) := by
  intro pins s σ H xs us Q I r h
  obtain ⟨a, dx, fs, rfl, ea, h⟩ := h
  obtain ⟨u, rfl, ru⟩ := vals1 r
  obtain rfl : u = Value.ref a := ru
  obtain ⟨mA, O, _⟩ := ins_get I.hok ea
  obtain ⟨od, J, _⟩ := O.look
  obtain ⟨m, F⟩ := I.fr
  refine PySem.W.repr_K hr.in1.units0 F I.mod.kin J hm.at_ hm.fn (wpAny_mono (run1 (vs := [.ref a]) (us := [.ref a]) G hr hgd hb I (.cons rfl .nil) h) (fun v s' ⟨x, H', I', rx, ⟨n, en⟩, q⟩ => ?_) fun _ _ y => y)
  subst en
  obtain ⟨t, rfl⟩ := rx
  exact ⟨.str n, H', I', ⟨_, rfl⟩, q⟩
end
/-- a builtin of one own object, by its method F -/
def eOwn1 (c0 : Str) (z : PV → Bool) (F : Fn) (a : EF PV) : EF PV := fun e st => (a e st).bind fun p st => if isIns c0 st p = true then ((F [p] st).noE).bind fun r st => if z r = true then .ok r st else .stuck else .stuck
def zLen : PV → Bool
  | .int n => decide (0 ≤ n ∧ n ≤ 9999999)
  | _ => false
def zStr : PV → Bool
  | .str _ => true
  | _ => false
section
variable {X : Cx} {W : WX} {e : Expr} {fe : EF PV} {c0 : Str} {pos p : Pos} {k : Nat} {f : Addr} {ps : List Str} {F : Fn} {z : PV → Bool} {zV : V → Prop}
theorem own1_ref {t : TE} (hz : ∀ N ρ H q v, RV X.K N ρ H q v → z q = true → zV v)
    (q : RefG X.K W t fe (RV X.K)) (hl : ps.length = 1) :
    RefG X.K W (fun σ H Q => t σ H fun x H1 => rOwn1 (He.ga X.K c0) (spF X.K ps.length F) zV [x] H1 Q) (eOwn1 c0 z F fe) (RV X.K) := by
  intro B ρ env st σ H Q R h
  refine q B ρ env st σ H _ R (ROk.mono (ROk.bind h) fun pv ρ1 st1 H1 E1 h1 u ru => ?_)
  by_cases hi : isIns c0 st1 pv = true
  · rw [if_pos hi] at h1
    obtain ⟨ns, vs, ei⟩ := isIns_some hi
    obtain ⟨a, dx, ws, rfl, h2, h3, h4⟩ := ins_at E1.rep ru ei
    refine ⟨a, dx, _, rfl, h2, spF_of (W := WF) E1.rep (.cons ru .nil) hl.symm ?_⟩
    cases hF : F [pv] st1 with
    | stuck => rw [hF] at h1; exact h1.elim
    | exc _ _ => rw [hF] at h1; exact h1.elim
    | ok r st2 =>
      rw [hF] at h1
      have h1 : ROk X.K W B ρ1 env σ H1 (if z r = true then .ok r st2 else .stuck) (fun p ρ' st' H' => ∀ u, RV X.K (Excl B ρ' env σ) ρ' H' p u → Q u H') := h1
      by_cases hr : z r = true
      · rw [if_pos hr] at h1
        exact fun ρ' H' E u ru => ⟨hz _ _ _ _ _ ru hr, h1 ρ' H' E u ru⟩
      · rw [if_neg hr] at h1
        exact h1.elim
  · rw [if_neg hi] at h1
    exact h1.elim
theorem m_lenO (h : ME X W e fe) (hm : Meth X.K (He.ga X.K c0) "__len__" f) (G : CalA Zg X.prog X.w X.K X.mg X.base k f ps F) (hl : ps.length = 1) (hr : Room (k + 1) X.A) (hgd : Zg → X.A.guards = some []) (hmg : X.mg "len" = none) (hg : Gl X "len" := by rfl)
    (he : starEach [e] X.env = (false, eval e X.env) :: starEach [] X.env := by rfl) (hpl : (backTo pos (starEach [] X.env)).any (·.1) = false := by rfl) : ME X W (.Call (.Name "len" p) [e] [] pos) (eOwn1 c0 zLen F fe) := by
  obtain ⟨t, pt, q⟩ := h
  obtain ⟨fd, G, bd⟩ := G
  refine ⟨_, ?_, own1_ref (zV := fun v => ∃ n : Int, v = .int n ∧ 0 ≤ n ∧ n < 2 ^ 63) (fun N ρ H q v r hz => ?_) q hl⟩
  · exact pe_callB (call_lenO hm G hr hgd bd) hg hmg (by decide +kernel) (pa_cons pt pa_nil he) (by decide) (by decide) he hpl
  · cases q with
    | int n =>
      have := rv_int r
      subst this
      have hz := of_decide_eq_true hz
      exact ⟨n, rfl, hz.1, Int.lt_of_le_of_lt hz.2 (by decide)⟩
    | _ => cases hz
theorem m_reprO (h : ME X W e fe) (hm : Meth X.K (He.ga X.K c0) "__repr__" f) (G : CalA Zg X.prog X.w X.K X.mg X.base k f ps F) (hl : ps.length = 1) (hr : Room (k + 1) X.A) (hgd : Zg → X.A.guards = some []) (hmg : X.mg "repr" = none) (hg : Gl X "repr" := by rfl)
    (he : starEach [e] X.env = (false, eval e X.env) :: starEach [] X.env := by rfl) (hpl : (backTo pos (starEach [] X.env)).any (·.1) = false := by rfl) : ME X W (.Call (.Name "repr" p) [e] [] pos) (eOwn1 c0 zStr F fe) := by
  obtain ⟨t, pt, q⟩ := h
  obtain ⟨fd, G, bd⟩ := G
  refine ⟨_, ?_, own1_ref (zV := fun v => ∃ n : Str, v = .str n) (fun N ρ H q v r hz => ?_) q hl⟩
  · exact pe_callB (call_reprO hm G hr hgd bd) hg hmg (by decide +kernel) (pa_cons pt pa_nil he) (by decide) (by decide) he hpl
  · cases q with
    | str n =>
      have := rv_str r
      subst this
      exact ⟨n, rfl⟩
    | _ => cases hz
end
/-! ### a class's constants -/
/-- o.f, a constant of the class, the value v -/
def eCon (c0 f : Str) (v : PV) (a : EF PV) : EF PV := fun e st => (a e st).bind fun p st => if isInsNo c0 f st p = true then .ok v st else .stuck
section
variable {X : Cx} {W : WX} {e : Expr} {fe : EF PV} {c0 f : Str} {pos p : Pos} {pv : PV} {v : V}
end
/-! ### isinstance against an own class -/
/-- what isinstance asks of instances of the class -/
structure InsTy (K : PySem.W.Frag) (C : Addr) : Prop where
  cl : Cls K C
  ha : PySem.W.findIn K (.ref C) "__class__" = some (some (.builtin "object.__class__"))
  hn : PySem.W.specialIn K (.builtin "object.__class__") "__get__" = some (some (.builtin "getset_descriptor.__get__"))
  htk : PySem.W.takesIn K (.builtin "object.__class__") = some true
  hm : PySem.W.mroIn K C (.type "object") = some true
theorem ty_ins {K : PySem.W.Frag} {H : Hp} {a C dx : Addr} {fs : List (Str × V)} (e : H a = some (.ins C dx fs)) (t : InsTy K C) : TyX K H (.ref a) (.ref C) := .base (.ins e t.cl t.ha t.hn t.htk t.hm)
/-- C0 as isinstance's second: no built-in is of it; the own classes cs that are, or are not -/
structure InsOf (K : PySem.W.Frag) (c0 : Str) (cs : List (Str × Bool)) : Prop where
  bt : ∀ T ∈ ["NoneType", "bool", "int", "str", "tuple", "list"], PySem.W.kitOne K (.type T) (.ref (He.ga K c0)) = some false
  ow : ∀ q ∈ cs, InsTy K (He.ga K q.1) ∧ PySem.W.kitOne K (.ref (He.ga K q.1)) (.ref (He.ga K c0)) = some q.2
def isOwn (cs : List (Str × Bool)) (st : Sto) (p : PV) : Option Bool := match insF st p with
  | some (c, _, _) => cs.lookup c
  | none => match p with
    | .gl _ => none
    | .ins _ _ _ => none
    | .cls _ => none
    | .tud _ => none
    | .exn _ _ _ _ _ => none
    | .scr _ => none
    | _ => some false
def eIsO (cs : List (Str × Bool)) (a : EF PV) : EF PV := fun e st => (a e st).bind fun p st => .of ((isOwn cs st p).map .bl) st
theorem lookup_mem' {α β : Type} [BEq α] [LawfulBEq α] {a : α} {b : β} : ∀ {l : List (α × β)}, l.lookup a = some b → (a, b) ∈ l
  | [], h => by cases h
  | (x, y) :: r, h => by
    rw [List.lookup_cons] at h
    split at h
    · rename_i e
      cases h
      rw [beq_iff_eq.mp e]
      exact List.mem_cons_self
    · exact List.mem_cons_of_mem _ (lookup_mem' h)
section
variable {X : Cx} {W : WX} {a : Expr} {fa : EF PV} {c0 : Str} {cs : List (Str × Bool)} {p p2 pos : Pos}
theorem m_isO (ha : ME X W a fa) (hC : InsOf X.K c0 cs) (hm : X.mg "isinstance" = none) (hm2 : X.mg c0 = some (.ref (He.ga X.K c0))) (hg : Gl X "isinstance" := by rfl) (hg2 : Gl X c0 := by rfl) (hd : (c0 == ("__debug__" : Str)) = false := by decide)
    (h1 : starEach [a, .Name c0 p2] X.env = (false, eval a X.env) :: starEach [.Name c0 p2] X.env := by rfl) (h2 : starEach [.Name c0 p2] X.env = (false, eval (.Name c0 p2) X.env) :: starEach [] X.env := by rfl)
    (hpl : (backTo pos (starEach [.Name c0 p2] X.env)).any (·.1) = false := by rfl) : ME X W (.Call (.Name "isinstance" p) [a, .Name c0 p2] [] pos) (eIsO cs fa) := by
  obtain ⟨ta, pa, qa⟩ := ha
  refine ⟨_, pe_callB call_isi hg hm (by decide +kernel) (pa_cons pa (pa_cons (pe_glob (v := .ref (He.ga X.K c0)) hg2 hm2 rfl hd) pa_nil h2) h1) (by decide) (by decide) h1 hpl, fun B ρ env st σ H Q R h => ?_⟩
  refine qa B ρ env st σ H _ R (ROk.mono (ROk.bind h) fun q ρ1 st1 H1 E1 h1 x rx => ?_)
  obtain ⟨z, ez, hz⟩ := ROk.of E1.rep h1
  cases eb : isOwn cs st1 q with
  | none => rw [eb] at ez; cases ez
  | some b =>
    rw [eb] at ez
    cases ez
    have fin : ∀ t, TyX X.K H1 x t → PySem.W.kitOne X.K t (.ref (He.ga X.K c0)) = some b → rIsi X.K [x, .ref (He.ga X.K c0)] H1 Q := fun t ty e => ⟨x, .ref (He.ga X.K c0), t, .ref (He.ga X.K c0), b, rfl, .own _, ty, e, hz H1 Ext.refl _ mk_bl⟩
    unfold isOwn at eb
    cases ei : insF st1 q with
    | some r =>
      obtain ⟨c, ns, vs⟩ := r
      rw [ei] at eb
      obtain ⟨ad, dx, ws, rfl, e2, _, _⟩ := ins_at E1.rep rx ei
      obtain ⟨k1, k2⟩ := hC.ow _ (lookup_mem' (show cs.lookup c = some b from eb))
      exact fin _ (ty_ins e2 k1) k2
    | none =>
      rw [ei] at eb
      have go : b = false → tyB q = true → tyN q ∈ ["NoneType", "bool", "int", "str", "tuple", "list"] → rIsi X.K [x, .ref (He.ga X.K c0)] H1 Q := fun e n1 ht => by
        subst e
        exact fin _ (ty_of rx.b n1) (hC.bt _ ht)
      cases q with
      | non => exact go (Option.some.inj eb).symm rfl (by simp [tyN])
      | bl _ => exact go (Option.some.inj eb).symm rfl (by simp [tyN])
      | int _ => exact go (Option.some.inj eb).symm rfl (by simp [tyN])
      | str _ => exact go (Option.some.inj eb).symm rfl (by simp [tyN])
      | tup _ => exact go (Option.some.inj eb).symm rfl (by simp [tyN])
      | lst _ => exact go (Option.some.inj eb).symm rfl (by simp [tyN])
      | _ => cases eb
end
/-! ### texts -/
def strOfN : PV → Option Str
  | .str y => if y.length ≤ LINE then some y else none
  | .int i => if i.natAbs.log2 < 1920 then some (toString i) else none
  | _ => none
/-- str(a) of an int or a text -/
def strF : List PV → Option PV
  | [.int i] => if i.natAbs.log2 < 1920 then some (.str (toString i)) else none
  | [.str y] => some (.str y)
  | _ => none
def strsOf : List PV → Option (List Str)
  | [] => some []
  | .str y :: r => (strsOf r).map (y :: ·)
  | _ => none
def joinF (a : Str) : PV → Option PV
  | .lst l => match strsOf l with
    | some ys => if (ys.map (·.length)).sum + ys.length * a.length ≤ 16777216 then some (.str (PySem.Txt.join a ys)) else none
    | none => none
  | .tup l => match strsOf l with
    | some ys => if (ys.map (·.length)).sum + ys.length * a.length ≤ 16777216 then some (.str (PySem.Txt.join a ys)) else none
    | none => none
  | _ => none
/-- a text's method, one argument -/
def eTx (op : Str → PV → Option PV) (a b : EF PV) : EF PV := fun e st => (a e st).bind fun p st => match p with
  | .str x => (b e st).bind fun q st => .of (op x q) st
  | _ => .stuck
def eFmt (a : EF PV) : EF PV := fun e st => (a e st).bind fun p st => .of ((strOfN p).map .str) st
def jNil : Str → EF Str := fun acc _ st => .ok acc st
def jCons (a : EF PV) (r : Str → EF Str) : Str → EF Str := fun acc e st => (a e st).bind fun p st => match p with
  | .str y => if (acc ++ y).length ≤ LINE then r (acc ++ y) e st else .stuck
  | _ => .stuck
def eJStr (g : Str → EF Str) : EF PV := fun e st => (g Str.empty e st).bind fun y st => .ok (.str y) st
def MJ (X : Cx) (W : WX) (es : List Expr) (g : Str → EF Str) : Prop := ∃ ts, PJ X es ts ∧ ∀ acc B ρ env st σ H Q, Rep X.K B ρ env st σ H →
  ROk X.K W B ρ env σ H (g acc env st) (fun y ρ' st' H' => Q y H') → tJs ts acc σ H Q
theorem strs_rv {K : PySem.W.Frag} {N : Addr → Prop} {ρ : List Addr} {H : Hp} : ∀ {l : List PV} {ys : List Str} {xs : List V}, strsOf l = some ys → RVs K N ρ H l xs → xs = ys.map V.str
  | [], ys, xs, h, r => by cases h; exact r.unnil
  | p :: l, ys, xs, h, r => by
    obtain ⟨v, vs, rfl, r1, r2⟩ := r.uncons
    cases p with
    | str y =>
      have h : (strsOf l).map (y :: ·) = some ys := h
      cases e : strsOf l with
      | none => rw [e] at h; cases h
      | some zs =>
        rw [e] at h
        cases h
        rw [rv_str r1, strs_rv e r2]
        rfl
    | _ => cases h
section
variable {X : Cx} {W : WX} {e o v1 v2 : Expr} {es : List Expr} {fe fo : EF PV} {g : Str → EF Str} {gl : EF (List PV)} {pos p apos : Pos}
theorem m_fmt (h : ME X W e fe) : ME X W (.FormattedValue e (-1) none pos) (eFmt fe) := by
  obtain ⟨t, p, q⟩ := h
  refine ⟨_, pe_fmt p, fun B ρ env st σ H Q R h => ?_⟩
  refine q B ρ env st σ H _ R (ROk.mono (ROk.bind h) fun pv ρ1 st1 H1 E1 h1 x rx => ?_)
  obtain ⟨z, ez, hz⟩ := ROk.of E1.rep h1
  unfold strOfN at ez
  split at ez
  · split at ez
    · rename_i hl
      cases ez
      exact .inl ⟨_, rv_str rx, by rw [← LINE_eq]; exact hl, hz H1 Ext.refl _ mk_str⟩
    · cases ez
  · split at ez
    · rename_i hl
      cases ez
      exact .inr ⟨_, rv_int rx, hl, hz H1 Ext.refl _ mk_str⟩
    · cases ez
  · cases ez
theorem mj_nil : MJ X W [] jNil := ⟨[], .nil, fun acc B ρ env st σ H Q R h => h ρ H (.refl R)⟩
theorem mj_cons (h : ME X W e fe) (hr : MJ X W es g) : MJ X W (e :: es) (jCons fe g) := by
  obtain ⟨t, p, q⟩ := h
  obtain ⟨ts, pr, qr⟩ := hr
  refine ⟨t :: ts, .cons p pr, fun acc B ρ env st σ H Q R h => ?_⟩
  refine q B ρ env st σ H _ R (ROk.mono (ROk.bind h) fun pv ρ1 st1 H1 E1 h1 x rx => ?_)
  cases pv with
  | str y =>
    dsimp only at h1
    split at h1
    · rename_i hl
      exact ⟨y, rv_str rx, by rw [← LINE_eq]; exact hl, qr _ B ρ1 env st1 σ H1 Q E1.rep h1⟩
    · exact h1.elim
  | _ => exact h1.elim
theorem m_jstr (h : MJ X W (v1 :: v2 :: es) g) : ME X W (.JoinedStr (v1 :: v2 :: es) pos) (eJStr g) := by
  obtain ⟨ts, p, q⟩ := h
  refine ⟨_, pe_joined p, fun B ρ env st σ H Q R h => ?_⟩
  exact q _ B ρ env st σ H _ R (ROk.mono (ROk.bind h) fun y ρ1 st1 H1 E1 h1 => h1 ρ1 H1 (.refl E1.rep) _ mk_str)
theorem c_str : CallP X (.type "str") strF := by
  refine ⟨fun xs H Q => (∃ i : Int, xs = [.int i] ∧ i.natAbs.log2 < 1920 ∧ Q (.str (toString i)) H) ∨ ∃ a : Str, xs = [.str a] ∧ Q (.str a) H, fun pins s σ H xs us Q I r h => ?_, fun N ρ H xs ps z Q hN hx ho hQ => ?_⟩
  · rcases h with h | h
    · exact call_str_int pins s σ H xs us Q I r h
    · exact SkE.call_str_str pins s σ H xs us Q I r h
  · unfold strF at ho
    split at ho
    · split at ho
      · rename_i hl
        cases ho
        obtain ⟨v, rfl, r, _⟩ := hx.one
        exact .inl ⟨_, by rw [rvb_int r], hl, hQ H _ Ext.refl mk_str⟩
      · cases ho
    · cases ho
      obtain ⟨v, rfl, r, _⟩ := hx.one
      exact .inr ⟨_, by rw [rvb_str r], hQ H _ Ext.refl mk_str⟩
    · cases ho
theorem g_str (hm : X.mg "str" = none) (ha : MAb X W (e :: es) gl) (hg : Gl X "str" := by rfl) (he : starEach (e :: es) X.env = (false, eval e X.env) :: starEach es X.env := by rfl) (hpl : (backTo pos (starEach es X.env)).any (·.1) = false := by rfl) : ME X W (.Call (.Name "str" p) (e :: es) [] pos) (eB strF gl) := m_callTy c_str hg hm (by decide +kernel) ha (by decide) (by decide) he hpl
theorem m_join (ho : ME X W o fo) (he : MB X W e fe) (hs : starEach [e] X.env = [(false, eval e X.env)] := by rfl) (hbase : attributeBase o "join" X.env (eval o X.env) = eval o X.env := by rfl) (hline : (apos.endLine == pos.line) = true := by rfl) :
    ME X W (.Call (.Attribute o "join" apos) [e] [] pos) (eTx joinF fo fe) := by
  obtain ⟨to, po, qo⟩ := ho
  obtain ⟨te, pe, qe⟩ := he
  refine ⟨_, pe_join po pe hs hbase hline, fun B ρ env st σ H Q R h => ?_⟩
  refine qo B ρ env st σ H _ R (ROk.mono (ROk.bind h) fun pv ρ1 st1 H1 E1 h1 x rx => ?_)
  cases pv with
  | str a0 =>
    refine ⟨⟨a0, rv_str rx⟩, qe B ρ1 env st1 σ H1 _ E1.rep (ROk.mono (ROk.bind h1) fun qv ρ2 st2 H2 E2 h2 y ry => ?_)⟩
    obtain ⟨z, ez, hz⟩ := ROk.of E2.rep h2
    unfold joinF at ez
    split at ez
    · split at ez
      · rename_i l ys e
        split at ez
        · rename_i hl
          cases ez
          obtain ⟨b, xs, rfl, e1, e2, e3⟩ := rvb_lst ry.1
          have := strs_rv e e3
          subst this
          exact ⟨_, b, ys, rv_str rx, rfl, .inl (SqL.of e1), hl, hz H2 Ext.refl _ mk_str⟩
        · cases ez
      · cases ez
    · split at ez
      · rename_i l ys e
        split at ez
        · rename_i hl
          cases ez
          obtain ⟨b, xs, rfl, e1, e2, e3⟩ := rvb_tup ry.1
          have := strs_rv e e3
          subst this
          exact ⟨_, b, ys, rv_str rx, rfl, .inr e1.sq, hl, hz H2 Ext.refl _ mk_str⟩
        · cases ez
      · cases ez
    · cases ez
  | _ => exact h1.elim
end
end PL
/-! PLx: lists in the store: made, measured, popped, appended to; in and not in of nested data. -/
namespace PL
open PySem PySem.Spec L2
section
variable {K : PySem.W.Frag} {B : Addr → Prop} {ρ : List Addr} {env : Env} {st : Sto} {σ : L2.St} {H : Hp}
/-- a new list, a thing of the store from now on -/
theorem EPost.newG (R : Rep K B ρ env st σ H) {p : Addr} {l : List PV} {xs : List V} (np : H p = none) (hl : xs.length ≤ LINE) (r : RVs K (Excl B ρ env σ) ρ H l xs) :
    EPost K B ρ env σ H (ρ ++ [p]) (st ++ [.lst l]) (upd H p (.lst xs)) := by
  have E : Ext H (upd H p (.lst xs)) := Ext.new np
  have tr : ∀ a, H a ≠ none → (upd H p (.lst xs)) a ≠ none := fun a h z => by
    cases e : H a with
    | none => exact h e
    | some o => rw [E a o e] at z; cases z
  have pr : p ∉ ρ := fun z => R.rT p z np
  have less : ∀ a o, H a = some o → Excl B (ρ ++ [p]) env σ a → Excl B ρ env σ a := fun a o e n => by
    rcases n with n | n | n
    · exact .inl n
    · rcases List.mem_append.mp n with n | n
      · exact .inr (.inl n)
      · rw [List.mem_singleton.mp n, np] at e
        cases e
    · exact .inr (.inr n)
  refine ⟨⟨R.lenE, by simp [R.lenC], List.nodup_append.mpr ⟨R.nd, by simp, fun a ha c hc z => pr (by rw [← List.mem_singleton.mp hc, ← z]; exact ha)⟩, fun n c a h1 h2 => ?_, fun a h => ?_, fun a h => ?_, fun a h => (R.bN a h).keep fun o e => E a o e, fun i e h => ?_, fun a h => ?_, R.sep⟩, List.prefix_append _ _, fun a o e _ => E a o e, tr, fun a h n => ?_⟩
  · by_cases hn : n < st.length
    · rw [List.getElem?_append_left hn] at h1
      rw [List.getElem?_append_left (by rw [R.lenC]; exact hn)] at h2
      exact (R.cell n c a h1 h2).carry less (fun a o e _ => E a o e) (List.prefix_append ρ [p]) fun o q => E a o q
    · rw [List.getElem?_append_right (by omega)] at h1
      rw [List.getElem?_append_right (by rw [R.lenC]; omega), R.lenC] at h2
      have e0 : n - st.length = 0 := by
        by_cases h0 : n - st.length = 0
        · exact h0
        · rw [List.getElem?_eq_none (by simp; omega)] at h1
          cases h1
      rw [e0] at h1 h2
      cases h1
      cases h2
      exact ⟨xs, upd_same, hl, RVs.carry less (fun a o e _ => E a o e) (List.prefix_append ρ [p]) _ _ r⟩
  · rcases List.mem_append.mp h with h | h
    · exact tr a (R.rT a h)
    · rw [List.mem_singleton.mp h, upd_same]
      exact fun z => by cases z
  · rcases List.mem_append.mp h with h | h
    · exact R.rB a h
    · rw [List.mem_singleton.mp h]
      exact fun z => R.bT p z np
  · have q := R.slot i e h
    cases e with
    | non => trivial
    | val v =>
      obtain ⟨u, q1, q2⟩ := q
      exact ⟨u, q1, RV.carry less (fun a o e _ => E a o e) (List.prefix_append ρ [p]) _ _ q2⟩
    | own m =>
      obtain ⟨b, ys, q0, q1, q2, q3⟩ := q
      exact ⟨b, ys, q0, E b _ q1, q2, RVs.carry less (fun a o e _ => E a o e) (List.prefix_append ρ [p]) _ _ q3⟩
  · refine ⟨fun z => ?_, (R.oR a h).2⟩
    rcases List.mem_append.mp z with z | z
    · exact (R.oR a h).1 z
    · obtain ⟨ys, q⟩ := R.oT h
      rw [List.mem_singleton.mp z, np] at q
      cases q
  · rcases List.mem_append.mp h with h | h
    · exact absurd h n
    · rw [List.mem_singleton.mp h]
      exact np
end
def eNewG (l : EF (List PV)) : EF PV := fun e st => (l e st).bind fun l st => .ok (.gl st.length) (st ++ [.lst l])
def lstAt (st : Sto) : PV → Option (Nat × List PV)
  | .gl n => match st[n]? with
    | some (.lst l) => some (n, l)
    | _ => none
  | _ => none
def eLenG (a : EF PV) : EF PV := fun e st => (a e st).bind fun p st => match lstAt st p with
  | some (_, l) => .ok (.int l.length) st
  | none => .stuck
def ePopG (a k : EF PV) : EF PV := fun e st => (a e st).bind fun p st => match lstAt st p with
  | some _ => (k e st).bind fun q st => match lstAt st p, q with
    | some (n, l), .int i => match popAt l i with
      | some (y, m) => .ok y (st.set n (.lst m))
      | none => .stuck
    | _, _ => .stuck
  | none => .stuck
def eAppG (a v : EF PV) : EF PV := fun e st => (a e st).bind fun p st => match lstAt st p with
  | some _ => (v e st).bind fun q st => match lstAt st p with
    | some (n, l) => if l.length < LINE then .ok .non (st.set n (.lst (l ++ [q]))) else .stuck
    | none => .stuck
  | none => .stuck
theorem Rep.lst {K : PySem.W.Frag} {B : Addr → Prop} {ρ : List Addr} {env : Env} {st : Sto} {σ : L2.St} {H : Hp} (R : Rep K B ρ env st σ H) {p : PV} {u : V} {n : Nat} {l : List PV} (r : RV K (Excl B ρ env σ) ρ H p u) (h : lstAt st p = some (n, l)) :
    p = .gl n ∧ st[n]? = some (.lst l) ∧ ∃ a xs, u = .ref a ∧ ρ[n]? = some a ∧ H a = some (.lst xs) ∧ xs.length ≤ LINE ∧ RVs K (Excl B ρ env σ) ρ H l xs := by
  cases p with
  | gl m =>
    have h2 : (match st[m]? with
      | some (.lst l) => some (m, l)
      | _ => none) = some (n, l) := h
    cases e : st[m]? with
    | none => rw [e] at h2; cases h2
    | some c =>
      rw [e] at h2
      cases c with
      | lst l' =>
        cases h2
        obtain ⟨a, rfl, hn⟩ := rv_gl r
        obtain ⟨xs, q1, q2, q3⟩ := R.cell _ _ a e hn
        exact ⟨rfl, e, a, xs, rfl, hn, q1, q2, q3⟩
      | dead => cases h2
      | dk _ => cases h2
      | dt _ => cases h2
      | tbl _ _ => cases h2
      | ins _ _ _ => cases h2
  | _ => cases h
theorem Post.toE {K : PySem.W.Frag} {B : Addr → Prop} {ρ ρ' : List Addr} {env : Env} {st' : Sto} {σ : L2.St} {H H' : Hp} (P : Post K B ρ env σ H ρ' env st' σ H') (h : ∀ a, Owned env σ a → ∀ o, H a = some o → H' a = some o) : EPost K B ρ env σ H ρ' st' H' :=
  ⟨P.rep, P.pre, fun a o e n => by
    by_cases ho : Owned env σ a
    · exact h a ho o e
    · exact P.kp a o e n ho, P.tr, P.fr⟩
theorem EPost.cellW {K : PySem.W.Frag} {B : Addr → Prop} {ρ : List Addr} {env : Env} {st : Sto} {σ : L2.St} {H : Hp} (R : Rep K B ρ env st σ H) {n : Nat} {l m : List PV} {a : Addr} {ys : List V} (e : st[n]? = some (.lst l)) (ea : ρ[n]? = some a) (hl : ys.length ≤ LINE) (r : RVs K (Excl B ρ env σ) ρ H m ys) :
    EPost K B ρ env σ H ρ (st.set n (.lst m)) (upd H a (.lst ys)) :=
  (R.cellWrite e ea hl r).toE fun b ho o eo => by
    rw [upd_ne (fun z => (R.oR b ho).1 (by rw [z]; exact List.mem_of_getElem? ea))]
    exact eo
section
variable {X : Cx} {W : WX} {e o k : Expr} {fe fo fk : EF PV} {fl : EF (List PV)} {pos apos p : Pos}
theorem m_newG (h : ML X W e fl) : ME X W e (eNewG fl) := by
  obtain ⟨t, p, q⟩ := h
  refine ⟨t, p, fun B ρ env st σ H Q R h => ?_⟩
  refine q B ρ env st σ H Q R (ROk.mono (ROk.bind h) fun l ρ1 st1 H1 E1 h1 p xs H2 np e2 hl rxs => ?_)
  subst e2
  refine h1 _ _ (.newG E1.rep np hl rxs) (.ref p) ?_
  unfold RV
  refine ⟨p, rfl, ?_⟩
  rw [List.getElem?_append_right (by rw [E1.rep.lenC]; exact Nat.le_refl _), E1.rep.lenC, Nat.sub_self]
  rfl
theorem m_lenG (h : ME X W e fe) (hmg : X.mg "len" = none) (hg : Gl X "len" := by rfl) (he : starEach [e] X.env = (false, eval e X.env) :: starEach [] X.env := by rfl) (hpl : (backTo pos (starEach [] X.env)).any (·.1) = false := by rfl) : ME X W (.Call (.Name "len" p) [e] [] pos) (eLenG fe) := by
  obtain ⟨t, pt, q⟩ := h
  refine ⟨_, pe_callB call_len hg hmg (by decide +kernel) (pa_cons pt pa_nil he) (by decide) (by decide) he hpl, fun B ρ env st σ H Q R h => ?_⟩
  refine q B ρ env st σ H _ R (ROk.mono (ROk.bind h) fun pv ρ1 st1 H1 E1 h1 x rx => ?_)
  cases el : lstAt st1 pv with
  | none => rw [el] at h1; exact h1.elim
  | some r =>
    obtain ⟨n, l⟩ := r
    rw [el] at h1
    obtain ⟨rfl, es, a, xs, rfl, hn, q1, q2, q3⟩ := E1.rep.lst rx el
    refine ⟨_, xs.length, rfl, .inl ⟨xs, SqL.of q1, rfl⟩, ?_⟩
    rw [q3.len]
    exact h1 ρ1 H1 (.refl E1.rep) _ mk_int
theorem m_popG (ho : ME X W o fo) (hk : ME X W k fk)
    (hbase : attributeBase o "pop" X.env (eval o X.env) = eval o X.env := by rfl)
    (hfew : ((backTo pos (starEach [k] X.env)).all (fun x => !x.1) && (backToKw pos (keywordEach [] X.env)).all (fun x => x.1.isSome) && decide ([k].length + ([] : List Keyword).length + (if ([] : List Keyword).isEmpty then 0 else 1) < 30)) = true := by rfl)
    (hline : (apos.endLine == pos.line) = true := by rfl) (hs : starEach [k] X.env = (false, eval k X.env) :: starEach [] X.env := by rfl) (hplain : (backTo pos (starEach [] X.env)).any (·.1) = false := by rfl) :
    ME X W (.Call (.Attribute o "pop" apos) [k] [] pos) (ePopG fo fk) := by
  obtain ⟨t1, p1, q1⟩ := ho
  obtain ⟨t2, p2, q2⟩ := hk
  refine ⟨_, pe_bm PySem.F.plainAttrs_list PySem.F.slot_list_pop PySem.F.type_list_pop mt_popAt p1 (pa_cons p2 pa_nil hs) hbase hfew hline hs hplain, fun B ρ env st σ H Q R h => ?_⟩
  refine q1 B ρ env st σ H _ R (ROk.mono (ROk.bind h) fun pv ρ1 st1 H1 E1 h1 x rx => ?_)
  cases el : lstAt st1 pv with
  | none => rw [el] at h1; exact h1.elim
  | some r =>
    obtain ⟨n, l⟩ := r
    rw [el] at h1
    obtain ⟨rfl, es, a, xs, rfl, hn, c1, c2, c3⟩ := E1.rep.lst rx el
    refine ⟨.inl ⟨rfl, xs, SqL.of c1⟩, q2 B ρ1 env st1 σ H1 _ E1.rep (ROk.mono (ROk.bind h1) fun qv ρ2 st2 H2 E2 h2 y ry => ?_)⟩
    cases el2 : lstAt st2 (.gl n) with
    | none => rw [el2] at h2; exact h2.elim
    | some r2 =>
      obtain ⟨n2, l2⟩ := r2
      rw [el2] at h2
      obtain ⟨en, es2, a2, ys, ea, hn2, d1, d2, d3⟩ := E2.rep.lst (E2.post.rv rx) el2
      cases en
      cases ea
      cases qv with
      | int i =>
        dsimp only at h2
        cases ep : popAt l2 i with
        | none => rw [ep] at h2; exact h2.elim
        | some r3 =>
          obtain ⟨py, m⟩ := r3
          rw [ep] at h2
          unfold popAt at ep
          cases ei : ixN l2.length i with
          | none => rw [ei] at ep; cases ep
          | some jj =>
            rw [ei] at ep
            dsimp only at ep
            cases eg : l2[jj]? with
            | none => rw [eg] at ep; cases ep
            | some y0 =>
              rw [eg] at ep
              cases ep
              obtain ⟨yv, b1, b2⟩ := d3.get eg
              have lw := d3.len
              obtain ⟨g1, g2, g3, g4⟩ := ixN_seq ei
              have eu := rv_int ry
              subst eu
              have hL : LINE = 16777216 := rfl
              have EW := EPost.cellW (m := l2.eraseIdx jj) (ys := ys.eraseIdx jj) E2.rep es2 hn2 (Nat.le_trans (List.length_eraseIdx_le _ _) d2) (d3.eraseIdx jj)
              exact ⟨a, ys, i, jj, yv, rfl, rfl, d1, by omega, by omega, by rw [lw]; exact g1, b1, h2 ρ2 _ EW _ (EW.post.rv b2)⟩
      | _ => exact h2.elim
theorem m_appG (ho : ME X W o fo) (hk : ME X W k fk)
    (hbase : attributeBase o "append" X.env (eval o X.env) = eval o X.env := by rfl)
    (hfew : ((backTo pos (starEach [k] X.env)).all (fun x => !x.1) && (backToKw pos (keywordEach [] X.env)).all (fun x => x.1.isSome) && decide ([k].length + ([] : List Keyword).length + (if ([] : List Keyword).isEmpty then 0 else 1) < 30)) = true := by rfl)
    (hline : (apos.endLine == pos.line) = true := by rfl) (hs : starEach [k] X.env = (false, eval k X.env) :: starEach [] X.env := by rfl) (hplain : (backTo pos (starEach [] X.env)).any (·.1) = false := by rfl) :
    ME X W (.Call (.Attribute o "append" apos) [k] [] pos) (eAppG fo fk) := by
  obtain ⟨t1, p1, q1⟩ := ho
  obtain ⟨t2, p2, q2⟩ := hk
  refine ⟨_, pe_bm PySem.F.plainAttrs_list PySem.F.slot_list_append PySem.F.type_list_append mt_append p1 (pa_cons p2 pa_nil hs) hbase hfew hline hs hplain, fun B ρ env st σ H Q R h => ?_⟩
  refine q1 B ρ env st σ H _ R (ROk.mono (ROk.bind h) fun pv ρ1 st1 H1 E1 h1 x rx => ?_)
  cases el : lstAt st1 pv with
  | none => rw [el] at h1; exact h1.elim
  | some r =>
    obtain ⟨n, l⟩ := r
    rw [el] at h1
    obtain ⟨rfl, es, a, xs, rfl, hn, c1, c2, c3⟩ := E1.rep.lst rx el
    refine ⟨.inl ⟨rfl, xs, SqL.of c1⟩, q2 B ρ1 env st1 σ H1 _ E1.rep (ROk.mono (ROk.bind h1) fun qv ρ2 st2 H2 E2 h2 y ry => ?_)⟩
    cases el2 : lstAt st2 (.gl n) with
    | none => rw [el2] at h2; exact h2.elim
    | some r2 =>
      obtain ⟨n2, l2⟩ := r2
      rw [el2] at h2
      obtain ⟨en, es2, a2, ys, ea, hn2, d1, d2, d3⟩ := E2.rep.lst (E2.post.rv rx) el2
      cases en
      cases ea
      dsimp only at h2
      by_cases hl : l2.length < LINE
      · rw [if_pos hl] at h2
        have lw := d3.len
        have hl2 : (ys ++ [y]).length ≤ LINE := by rw [List.length_append, lw, List.length_singleton]; omega
        exact ⟨a, ys, y, rfl, rfl, d1, by rw [← LINE_eq, lw]; exact hl, h2 ρ2 _ (EPost.cellW E2.rep es2 hn2 hl2 (d3.append (.cons ry .nil))) _ mk_non⟩
      · rw [if_neg hl] at h2
        exact h2.elim
end
/-! ### in, not in, of nested data -/
def inD (f : Bool → Bool) (p q : PV) : Option PV := match q with
  | .lst l => match toD p, toDs l with
    | some d, some ds => if SeqAt.shaped d = true ∧ SeqAt.shaped (.list ds) = true then some (.bl (f (ds.any fun z => PyData.eqv z d))) else none
    | _, _ => none
  | _ => none
theorem p_notInD {X : Cx} (hu : X.A.units + 65 < cLine) : OpP X (compareOp .NotIn) (inD fun b => !b) := by
  refine ⟨_, op_notInD hu, fun N ρ H x y p q z Q hN hx hy ho hQ => ?_⟩
  unfold inD at ho
  split at ho
  · rename_i l
    split at ho
    · rename_i d ds e1 e2
      split at ho
      · rename_i hs
        cases ho
        exact ⟨d, ds, hx.dp e1, hy.dp (d := .list ds) (by unfold toD; rw [e2]; rfl), hs.1, hs.2, hQ H _ Ext.refl mk_bl⟩
      · cases ho
    · cases ho
  · cases ho
/-! ### short forms -/
section
variable {X : Cx} {W : WX}
theorem o_notInD {k : Nat} (r : Room k X.A) : OpP X (compareOp .NotIn) (inD fun b => !b) := p_notInD (by have := r.un; omega)
end
end PL
/-! PLy: what the head tells of classes; short forms of the rules for them. -/
namespace PL
variable {Zg : Prop}
open PySem PySem.Spec L2
/-! ### the hook: any checks, defs at any address -/
theorem mapL_eq {α β : Type} (f : α → β) : ∀ l : List α, mapL f l = l.map f
  | [] => rfl
  | a :: r => by
    rw [List.map_cons, ← mapL_eq f r]
    rfl
theorem and_true2 {a b : Bool} (h : (a && b) = true) : a = true ∧ b = true := Bool.and_eq_true_iff.mp h
section
variable {fs : List Chk} {fn : List He5.DefA} {K : PySem.W.Frag}
theorem SaysP.fact (c : SaysP fs fn K) (i : Nat) {f : Chk} (h : fs[i]? = some f := by rfl) : f K = true :=
  List.all_eq_true.mp (and_true2 (congrArg Prod.fst c)).1 f (List.mem_of_getElem? h)
theorem SaysP.def_ (c : SaysP fs fn K) (i : Nat) {d : He5.DefA} (h : fn[i]? = some d := by rfl) : ∃ fd, FunD K d.name d.qual d.params d.body d.scope (d.dvs K) (d.kws K) (d.at_ K) fd := by
  have c2 := (and_true2 (congrArg Prod.fst c)).2
  have e2 : (mapL (fun d => He5.fnA K (d.at_ K)) fn)[i]? = (fn.map He5.DefA.val)[i]? := congrArg (fun z : He.AlD => z.2[i]?) c
  rw [mapL_eq, List.getElem?_map, List.getElem?_map, h] at e2
  exact He5.DefA.funD (Option.some.inj e2) (List.all_eq_true.mp c2 d (List.mem_of_getElem? h))
end
/-! ### addresses -/
/-! ### checks -/
theorem chkProp_ok {K : PySem.W.Frag} {c f : Str} (h : chkProp c f K = true) : PropOf K (He.ga K c) f (entA K c f) (prA K c f) := by
  obtain ⟨h1, h2⟩ := and_true2 h
  obtain ⟨h2, h3⟩ := and_true2 h2
  obtain ⟨h3, h4⟩ := and_true2 h3
  refine ⟨of_decide_eq_true h1, of_decide_eq_true h2, of_decide_eq_true h3, ?_⟩
  unfold prA
  cases e : PySem.W.recIn K (entA K c f) "property" with
  | none => rw [e] at h4; cases h4
  | some l =>
    rw [e] at h4
    cases l with
    | nil => cases h4
    | cons v r =>
      cases v with
      | ref g => exact ⟨r, rfl⟩
      | _ => cases h4
theorem chkIns_ok {K : PySem.W.Frag} {c : Str} (h : chkIns c K = true) : InsTy K (He.ga K c) := by
  obtain ⟨h1, h2⟩ := and_true2 h
  obtain ⟨h2, h3⟩ := and_true2 h2
  obtain ⟨h3, h4⟩ := and_true2 h3
  obtain ⟨h4, h5⟩ := and_true2 h4
  exact ⟨He.cls_ok h1, of_decide_eq_true h2, of_decide_eq_true h3, of_decide_eq_true h4, of_decide_eq_true h5⟩
theorem chkIsO_ok {K : PySem.W.Frag} {c0 : Str} {cs : List (Str × Bool)} (h : chkIsO c0 cs K = true) : InsOf K c0 cs := by
  obtain ⟨h1, h2⟩ := and_true2 h
  refine ⟨fun T hT => of_decide_eq_true (List.all_eq_true.mp h1 T hT), fun q hq => ?_⟩
  obtain ⟨k1, k2⟩ := and_true2 (List.all_eq_true.mp h2 q hq)
  exact ⟨chkIns_ok k1, of_decide_eq_true k2⟩
theorem chkCRd_ok {K : PySem.W.Frag} {c : Str} (h : chkCRd c K = true) : ClX.CRead K (He.ga K c) (.type "type") := by
  obtain ⟨h1, h2⟩ := and_true2 h
  exact ⟨h1, of_decide_eq_true h2⟩
theorem chkTup0_ok {K : PySem.W.Frag} {a : PySem.W.Frag → Addr} (h : chkTup0 a K = true) (N : Addr → Prop) (ρ : List Addr) (H : Hp) : RV K N ρ H (.tup []) (.ref (a K)) := by
  unfold chkTup0 at h
  cases q : K.lookup (a K) with
  | none => rw [q] at h; cases h
  | some o =>
    obtain ⟨oc, od, dt, osl⟩ := o
    rw [q] at h
    cases oc with
    | type c =>
      cases dt with
      | seq its n =>
        obtain ⟨h1, h2⟩ := and_true2 h
        have e1 := of_decide_eq_true h1
        have e2 := Array.isEmpty_iff.mp h2
        subst e1 e2
        exact mk_tupK (.inr ⟨rfl, _, #[], n, q, rfl, rfl, Nat.zero_le _, .nil⟩) (Nat.zero_le _) .nil
      | _ => cases h
    | _ => cases h
/-! ### short forms -/
section
variable {X : Cx} {W : WX} {o e tg iter : Expr} {es : List Expr} {fo fe : EF PV} {g gk : EF (List PV)} {c0 m f : Str} {pos apos p p2 : Pos} {k j : Nat} {a pr : Addr} {ps : List Str} {F : Fn}
theorem g_fld (c0 : Str) (h : ME X W e fe) (c : Cls X.K (He.ga X.K c0)) (n : NoAttr X.K (He.ga X.K c0) f) (hb : attributeBase e f X.env (eval e X.env) = eval e X.env := by rfl) : ME X W (.Attribute e f pos) (eFld c0 f fe) := m_fld h c n hb
theorem g_prop (h : ME X W e fe) (c : Cls X.K (He.ga X.K c0)) (hp : PropOf X.K (He.ga X.K c0) f pr a) (G : CalA Zg X.prog X.w X.K X.mg X.base k a ps F) (hr : Room j X.A) (hgd : Zg → X.A.guards = some []) (hk : k + 1 ≤ j := by decide) (hl : ps.length = 1 := by rfl) (hb : attributeBase e f X.env (eval e X.env) = eval e X.env := by rfl) : ME X W (.Attribute e f pos) (eProp c0 F fe) :=
  m_prop h c hp G hl (hr.mono hk) hgd hb
theorem g_meth {pl : Sem Bool} (h : ME X W o fo) (c : Cls X.K (He.ga X.K c0)) (hm : Meth X.K (He.ga X.K c0) m a) (G : CalA Zg X.prog X.w X.K X.mg X.base k a ps F) (hr : Room j X.A) (hgd : Zg → X.A.guards = some []) (tk : Takes X W) (ha : MA X W (e :: es) g) (hlen : ALen g (e :: es).length) (hk : k ≤ j := by decide) (hn : (e :: es).length + 1 = ps.length := by rfl)
    (hst : starEach (e :: es) X.env = (false, eval e X.env) :: starEach es X.env := by rfl) (hpl : (backTo pos (starEach es X.env)).any (·.1) = false := by rfl)
    (ht : eval (.Call (.Attribute o m apos) (e :: es) [] pos) X.env = (do
      let ov ← eval o X.env
      standAt apos.atName
      let (f, first) ← holding [ov] (getMethod ov m pl)
      callWith pos f first (backTo pos (starEach (e :: es) X.env)) (backToKw pos (keywordEach [] X.env))) := by rfl) :
    ME X W (.Call (.Attribute o m apos) (e :: es) [] pos) (eMeth c0 m F fo g) := m_meth h c hm G (hr.mono hk) hgd tk ha hn hlen hst hpl ht
theorem g_meth0 {pl : Sem Bool} (h : ME X W o fo) (c : Cls X.K (He.ga X.K c0)) (hm : Meth X.K (He.ga X.K c0) m a) (G : CalA Zg X.prog X.w X.K X.mg X.base k a ps F) (hr : Room j X.A) (hgd : Zg → X.A.guards = some []) (tk : Takes X W) (hk : k ≤ j := by decide) (hn : ps.length = 1 := by rfl)
    (ht : eval (.Call (.Attribute o m apos) [] [] pos) X.env = (do
      let ov ← eval o X.env
      standAt apos.atName
      let (f, first) ← holding [ov] (getMethod ov m pl)
      callWith pos f first (backTo pos (starEach [] X.env)) (backToKw pos (keywordEach [] X.env))) := by rfl) :
    ME X W (.Call (.Attribute o m apos) [] [] pos) (eMeth c0 m F fo aNil) := m_meth0 h c hm G (hr.mono hk) hgd tk hn ht
theorem g_lenO (h : ME X W e fe) (hm : Meth X.K (He.ga X.K c0) "__len__" a) (G : CalA Zg X.prog X.w X.K X.mg X.base k a ps F) (hr : Room j X.A) (hgd : Zg → X.A.guards = some []) (hmg : X.mg "len" = none) (hk : k + 1 ≤ j := by decide) (hl : ps.length = 1 := by rfl) (hg : Gl X "len" := by rfl)
    (he : starEach [e] X.env = (false, eval e X.env) :: starEach [] X.env := by rfl) (hpl : (backTo pos (starEach [] X.env)).any (·.1) = false := by rfl) : ME X W (.Call (.Name "len" p) [e] [] pos) (eOwn1 c0 zLen F fe) := m_lenO h hm G hl (hr.mono hk) hgd hmg hg he hpl
theorem g_reprO (h : ME X W e fe) (hm : Meth X.K (He.ga X.K c0) "__repr__" a) (G : CalA Zg X.prog X.w X.K X.mg X.base k a ps F) (hr : Room j X.A) (hgd : Zg → X.A.guards = some []) (hmg : X.mg "repr" = none) (hk : k + 1 ≤ j := by decide) (hl : ps.length = 1 := by rfl) (hg : Gl X "repr" := by rfl)
    (he : starEach [e] X.env = (false, eval e X.env) :: starEach [] X.env := by rfl) (hpl : (backTo pos (starEach [] X.env)).any (·.1) = false := by rfl) : ME X W (.Call (.Name "repr" p) [e] [] pos) (eOwn1 c0 zStr F fe) := m_reprO h hm G hl (hr.mono hk) hgd hmg hg he hpl
theorem g_make {dps : List PV} {sh : List (Nat × List Str × List Src)} {ks : List Str} {kws : List Keyword} (n : Nat) (l : List Src) (c : Maker Zg X.prog X.w X.K X.mg X.base k c0 ps dps F sh) (hq : (n, ks, l) ∈ sh) (hr : Room j X.A) (hgd : Zg → X.A.guards = some []) (tk : Takes X W)
    (ha : MA X W (e :: es) g) (hkw : MK X W kws gk) (hk : k + 1 ≤ j := by decide) (hl : l.all (fun s => match s with | .pos 0 => false | _ => true) = true := by rfl) (hg : Gl X c0 := by rfl) (hall : (backToKw pos (keywordEach kws X.env)).all (·.1.isSome) = true := by rfl) (hks : (backToKw pos (keywordEach kws X.env)).filterMap (·.1) = ks := by rfl)
    (hdb : (c0 == ("__debug__" : Str)) = false := by decide) (he : starEach (e :: es) X.env = (false, eval e X.env) :: starEach es X.env := by rfl)
    (hpl : ((backTo pos (starEach (e :: es) X.env)).any (·.1) || (backToKw pos (keywordEach kws X.env)).any (·.1.isNone)) = false := by rfl) :
    ME X W (.Call (.Name c0 p) (e :: es) kws pos) (eMake c0 F n ks.length ps.length dps l g gk) := m_make c hq hl (hr.mono hk) hgd tk hg ha hkw hall hks hdb he hpl
theorem g_isO {cs : List (Str × Bool)} (ha : ME X W e fe) (hC : InsOf X.K c0 cs) (hm : X.mg "isinstance" = none) (hm2 : X.mg c0 = some (.ref (He.ga X.K c0))) (hg : Gl X "isinstance" := by rfl) (hg2 : Gl X c0 := by rfl) (hd : (c0 == ("__debug__" : Str)) = false := by decide)
    (h1 : starEach [e, .Name c0 p2] X.env = (false, eval e X.env) :: starEach [.Name c0 p2] X.env := by rfl) (h2 : starEach [.Name c0 p2] X.env = (false, eval (.Name c0 p2) X.env) :: starEach [] X.env := by rfl)
    (hpl : (backTo pos (starEach [.Name c0 p2] X.env)).any (·.1) = false := by rfl) : ME X W (.Call (.Name "isinstance" p) [e, .Name c0 p2] [] pos) (eIsO cs fe) := m_isO ha hC hm hm2 hg hg2 hd h1 h2 hpl
end
/-- the bindings of one shape of a call -/
theorem FunD.shape {K : PySem.W.Frag} {x qual : Str} {params : Arguments} {body : List Stmt} {scope : Scope} {dvs : List V} {kws : List (Str × V)} {f : Addr} {fd : FuncData} {ps : List Str} (F : FunD K x qual params body scope dvs kws f fd) (n : Nat) (ks : List Str) (l : List Src) (hd : dvs ≠ [])
    (h : ∀ (T : Addr) (kV doc pm : Value) (an : Option Addr) (cdv ct : Value) (us its ws : List Value), us.length = n + 1 → its.length = dvs.length → ws.length = ks.length →
      ∃ k, bindArgs (PySem.W.fnOf x qual params body scope (.ref T) kV doc pm an cdv ct) ⟨us, ks.zip ws⟩ = seqItems? (.ref T) >>= k ∧ k (some its.toArray) = pure (ps.zip (plan (.pos 0 :: l) us its ws))) :
    ∃ its : List Value, KBn K fd ps (n + 1) ks (fun us ws => plan (.pos 0 :: l) us its ws) (fun vs zs => plan (.pos 0 :: l) vs dvs zs) :=
  F.kbindsD (n + 1) ks (fun us ds ws => plan (.pos 0 :: l) us ds ws) hd (fun r1 r2 r3 => plan_vals r1 r2 r3) h
end PL
/-! PLz: comprehensions of two clauses. -/
namespace PL
open PySem PySem.Spec L2
/-- what is walked within: nothing that is not ours changes -/
def canJ (K : PySem.W.Frag) (W : WX) (f : EF (List PV)) : TI := fun σ H R => ∃ B ρ env st, Rep K B ρ env st σ H ∧
  ROk K W B ρ env σ H (f env st) fun items ρ' st' H' => ∀ J H'', Ext H' H'' → IterOk K (Excl B ρ' env σ) (Excl B ρ' env σ) ρ' J items H'' → R J H''
theorem MI.canJ {X : Cx} {W : WX} {tg iter : Expr} {g : EF (List PV)} (h : MI X W tg iter g) : PI X tg iter (canJ X.K W g) := by
  obtain ⟨t, p, q⟩ := h
  exact ⟨fun pins s σ H Q I ⟨B, ρ, env, st, R, h⟩ => p.run pins s σ H Q I (q B ρ env st σ H Q R h)⟩
def lcLoop2 (b : BF) (c : EF Bool) (it1 : EF (List PV)) (b1 : BF) (vs1 : List Nat) (c1 : EF Bool) (t : EF PV) (e : Env) : List PV → Sto → RE (List PV)
  | [], st => .ok [] st
  | x :: xs, st => match b x e with
    | none => .stuck
    | some e1 => (c e1 st).noE.bind fun k st => if k = true then ((it1 e1 st).noE.bind fun ys st => lcLoop b1 c1 t (wipeE e1 vs1) ys st).bind fun l1 st => (lcLoop2 b c it1 b1 vs1 c1 t e xs st).bind fun l2 st => .ok (l1 ++ l2) st
      else lcLoop2 b c it1 b1 vs1 c1 t e xs st
/-- at most LINE items may come: the lists are measured -/
def lLc2 (it : EF (List PV)) (b : BF) (vs : List Nat) (c : EF Bool) (it1 : EF (List PV)) (b1 : BF) (vs1 : List Nat) (c1 : EF Bool) (t : EF PV) : EF (List PV) := fun e st => (it e st).bind fun xs st =>
  (lcLoop2 b c it1 b1 vs1 c1 t (wipeE e vs) xs st).bind fun l st => if l.length ≤ LINE then .ok l st else .stuck
section
variable {K : PySem.W.Frag} {B : Addr → Prop} {ρ ρ' : List Addr} {env : Env} {st st' : Sto} {σ : L2.St} {H H' : Hp}
theorem Rep.wiped2 (R : Rep K B ρ env st σ H) {D : Addr} (hB : B D) (vs : List Nat) : Rep K (Inner B env σ vs D) ρ (wipeE env vs) st (wipe σ vs) H := by
  have same : ∀ a, Excl (Inner B env σ vs D) ρ (wipeE env vs) (wipe σ vs) a → Excl B ρ env σ a := fun a n => by
    rcases excl_inner.mp n with q | q
    · exact q
    · rw [q]; exact .inl hB
  have inn : ∀ a, Inner B env σ vs D a → Excl B ρ env σ a := fun a h => by
    rcases h with h | h | ⟨h, _⟩
    · exact .inl h
    · rw [h]; exact .inl hB
    · exact .inr (.inr h)
  refine ⟨by rw [wipeE_len, wipe_length]; exact R.lenE, R.lenC, R.nd, fun n c a h1 h2 => ?_, R.rT, fun a h z => ?_, fun a h => (by
    rcases h with h | h | ⟨h, _⟩
    · exact R.bN a h
    · exact R.bN a (by rw [h]; exact hB)
    · obtain ⟨xs, e⟩ := R.oT h
      exact .of e fun _ z => by cases z), fun i e h => ?_, fun a h => ?_, fun i j l l' a h1 h2 h3 h4 => ?_⟩
  · exact (R.cell n c a h1 h2).carry (fun a _ _ n => same a n) (fun _ _ e _ => e) List.prefix_rfl fun o q1 => q1
  · rcases z with z | z | ⟨z, _⟩
    · exact R.rB a h z
    · exact R.rB a h (by rw [z]; exact hB)
    · exact (R.oR a z).1 h
  · rw [wipeE_get] at h
    by_cases hm : i ∈ vs
    · rw [if_pos hm] at h
      split at h
      · cases h; trivial
      · cases h
    · rw [if_neg hm] at h
      have q := R.slot i e h
      have ew : (wipe σ vs)[i]? = σ[i]? := by rw [wipe_get, if_neg hm]
      cases e with
      | non => trivial
      | val p =>
        obtain ⟨v, q1, q2⟩ := q
        exact ⟨v, ew.trans q1, RV.carry (fun a _ _ n => same a n) (fun _ _ e _ => e) List.prefix_rfl _ _ q2⟩
      | own l =>
        obtain ⟨a, xs, q0, q1, q2, q3⟩ := q
        exact ⟨a, xs, ew.trans q0, q1, q2, RVs.carry (fun a _ _ n => same a n) (fun _ _ e _ => e) List.prefix_rfl _ _ q3⟩
  · have ho := own_wipe h
    refine ⟨(R.oR a ho).1, fun z => ?_⟩
    rcases z with z | z | ⟨_, z⟩
    · exact (R.oR a ho).2 z
    · exact (R.oR a ho).2 (by rw [z]; exact hB)
    · exact z h
  · rw [wipeE_get] at h1 h2
    rw [wipe_get] at h3 h4
    by_cases hi : i ∈ vs
    · rw [if_pos hi] at h1
      split at h1 <;> cases h1
    · by_cases hj : j ∈ vs
      · rw [if_pos hj] at h2
        split at h2 <;> cases h2
      · rw [if_neg hi] at h1 h3
        rw [if_neg hj] at h2 h4
        exact R.sep i j l l' a h1 h2 h3 h4
/-- D holds something else, before and behind -/
theorem EPost.inB (E : EPost K B ρ env σ H ρ' st' H') {D : Addr} {o : HO} (hB : B D) (ho : ∀ xs, o ≠ .tup xs := by intro _ z; cases z) : EPost K B ρ env σ (upd H D o) ρ' st' (upd H' D o) := by
  refine ⟨E.rep.inB hB ho, E.pre, fun a u e n => ?_, fun a h => ?_, fun a h n => ?_⟩
  · by_cases ha : a = D
    · rw [ha, upd_same] at e
      rw [ha, upd_same]
      exact e
    · rw [upd_ne ha] at e ⊢
      exact E.kp a u e n
  · by_cases ha : a = D
    · rw [ha, upd_same]
      exact fun z => by cases z
    · rw [upd_ne ha] at h ⊢
      exact E.tr a h
  · by_cases ha : a = D
    · exact absurd (by rw [ha]; exact hB) (E.rep.rB a h)
    · rw [upd_ne ha]
      exact E.fr a h n
theorem upd_upd {D : Addr} {o o' : HO} : upd (upd H D o) D o' = upd H D o' := by
  funext a
  by_cases ha : a = D
  · rw [ha, upd_same, upd_same]
  · rw [upd_ne ha, upd_ne ha, upd_ne ha]
theorem upd_id {D : Addr} {o : HO} (h : H D = some o) : upd H D o = H := by
  funext a
  by_cases ha : a = D
  · rw [ha, upd_same, h]
  · rw [upd_ne ha]
/-- the inner loop -/
theorem lc_in {it1 : EF (List PV)} {b1 : BF} {vs1 : List Nat} {c1 : EF Bool} {t : EF PV} {D : Addr} {accV : List V} {l1 : List PV} {stf : Sto} {Nx : Hp → Prop} (hb : BOk b1 vs1) (R : Rep K B ρ env st σ H) (hB : B D) (hD : H D = some (.lst accV))
    (h : ((it1 env st).noE.bind fun ys st => lcLoop b1 c1 t (wipeE env vs1) ys st) = .ok l1 stf) (hlen : accV.length + l1.length ≤ LINE)
    (hN : ∀ ρ' H' us, EPost K B ρ env σ (upd H D (.lst (accV ++ us))) ρ' stf H' → H' D = some (.lst (accV ++ us)) → RVs K (Excl B ρ' env σ) ρ' H' l1 us → Nx H') :
    canJ K WF it1 σ H fun J1 H4 => ∃ W1 : Nat → Nat → Hp → Prop, (∃ m, W1 0 m H4) ∧ ∀ j k H, W1 j k H →
      (J1.stop j H ∧ Nx H) ∨ (J1.go j H ∧ ∃ Nx1 : Hp → Prop, (∀ H', Nx1 H' → ∃ k', k' < k ∧ W1 (j + 1) k' H') ∧ ∀ x H', J1.yld j H x H' → canG K b1 vs1 x (wipe σ vs1) H' fun σ3 H5 => wipe σ3 vs1 = wipe σ vs1 ∧ canT K WF c1 σ3 H5 fun b H6 =>
        if b = true then canE K WF t σ3 H6 fun y H7 => ∃ acc, H7 D = some (.lst acc) ∧ acc.length < sizeLine ∧ Nx1 (upd H7 D (.lst (acc ++ [y]))) else Nx1 H6) := by
  refine ⟨B, ρ, env, st, R, ?_⟩
  cases hit : it1 env st with
  | stuck => rw [hit] at h; cases h
  | exc _ _ => rw [hit] at h; cases h
  | ok items st1 =>
    rw [hit] at h
    have h : lcLoop b1 c1 t (wipeE env vs1) items st1 = .ok l1 stf := h
    intro ρ1 H1 E1 J H4 EX IT
    have E1' : EPost K B ρ env σ H ρ1 st1 H4 := E1.trans (.ext E1.rep EX)
    have R1 := E1'.rep
    have hD4 : H4 D = some (.lst accV) := E1'.kp D _ hD fun z => R.rB D z hB
    have RW := R1.wiped2 hB vs1
    have hBi : Inner B env σ vs1 D D := .inl hB
    let Pw : Nat → Hp → Prop := fun i Hi => ∃ ρi sti acc us ys, EPost K (Inner B env σ vs1 D) ρ1 (wipeE env vs1) (wipe σ vs1) (upd H4 D (.lst (accV ++ us))) ρi sti Hi ∧ Hi D = some (.lst (accV ++ us)) ∧
      RVs K (Excl (Inner B env σ vs1 D) ρi (wipeE env vs1) (wipe σ vs1)) ρi Hi acc us ∧ lcLoop b1 c1 t (wipeE env vs1) (items.drop i) sti = .ok ys stf ∧ l1 = acc ++ ys
    have E0 : EPost K (Inner B env σ vs1 D) ρ1 (wipeE env vs1) (wipe σ vs1) (upd H4 D (.lst (accV ++ []))) ρ1 st1 H4 := by
      rw [List.append_nil, upd_id hD4]
      exact .refl RW
    refine ⟨fun i m Hi => m = items.length - i ∧ i ≤ items.length ∧ Pw i Hi, ⟨items.length, by simp, Nat.zero_le _, ρ1, st1, [], [], l1, E0, by rw [List.append_nil]; exact hD4, .nil, h, rfl⟩, ?_⟩
    rintro i m Hi ⟨rfl, hi, ρi, sti, acc, us, ys, E, hDi, racc, hloop, hys⟩
    have nD : ∀ a, ¬ Excl B ρ1 env σ a → a ≠ D := fun a n z => n (by rw [z]; exact .inl hB)
    have kp : Keep (Excl B ρ1 env σ) H4 Hi := fun a o e n => E.kp a o (by rw [upd_ne (nD a n)]; exact e) fun z => n (.inr (.inl z))
    by_cases hlt : i < items.length
    · refine .inr ⟨IT.go i Hi hlt kp, fun Hn => ∃ m', m' < items.length - i ∧ (m' = items.length - (i + 1) ∧ i + 1 ≤ items.length ∧ Pw (i + 1) Hn), fun H' h' => h', fun x Hy hy => ?_⟩
      obtain ⟨EY, ry⟩ := IT.yld i Hi x Hy hlt kp hy
      have hitem : items[i]? = some items[i] := List.getElem?_eq_getElem hlt
      have lat : Later (Excl B ρ1 env σ) ρ1 H4 (Excl (Inner B env σ vs1 D) ρi (wipeE env vs1) (wipe σ vs1)) ρi Hi := by
        refine ⟨fun a o e n => ?_, kp, E.pre, fun a h => E.rep.tr h⟩
        have n1 : Excl (Inner B env σ vs1 D) ρ1 (wipeE env vs1) (wipe σ vs1) a := by
          rcases n with n | n | n
          · exact .inl n
          · by_cases hz : a ∈ ρ1
            · exact .inr (.inl hz)
            · have q := E.fr a n hz
              by_cases ha : a = D
              · rw [ha, upd_same] at q
                cases q
              · rw [upd_ne ha, e] at q
                cases q
          · exact .inr (.inr n)
        rcases excl_inner.mp n1 with q | q
        · exact q
        · rw [q]; exact .inl hB
      have rx : RV K (Excl (Inner B env σ vs1 D) ρi (wipeE env vs1) (wipe σ vs1)) ρi Hy items[i] x := ry items[i] _ ρi hitem lat
      have EYp : EPost K (Inner B env σ vs1 D) ρi (wipeE env vs1) (wipe σ vs1) Hi ρi sti Hy := .ext E.rep EY
      rw [show items.drop i = items[i] :: items.drop (i + 1) from List.drop_eq_getElem_cons hlt] at hloop
      unfold lcLoop at hloop
      cases hbv : b1 items[i] (wipeE env vs1) with
      | none => rw [hbv] at hloop; cases hloop
      | some env2 =>
        rw [hbv] at hloop
        dsimp only at hloop
        obtain ⟨hb1, hb2⟩ := hb _ _ _ hbv
        refine ⟨Inner B env σ vs1 D, ρi, wipeE env vs1, sti, items[i], env2, EYp.rep, rx, hbv, fun σ2 P2 hl2 hk2 => ⟨wipe_same (by rw [hl2, wipe_length]) (fun j hj => (hk2 j hj).trans (by rw [wipe_get, if_neg hj])), ?_⟩⟩
        have ownB : ∀ a, Owned (wipeE env vs1) (wipe σ vs1) a ↔ Owned env2 σ2 a := fun a => by
          constructor
          · rintro ⟨j, m, e1, e2⟩
            have hj : j ∉ vs1 := fun z => by
              rw [wipeE_get, if_pos z] at e1
              split at e1 <;> cases e1
            exact ⟨j, m, (hb2 j hj).trans e1, (hk2 j hj).trans e2⟩
          · intro z
            rcases P2.ow a z with q | q
            · exact q
            · obtain ⟨xs, q2⟩ := P2.rep.oT z
              rw [q] at q2
              cases q2
        have exB : ∀ {ρx : List Addr} {a : Addr}, Excl (Inner B env σ vs1 D) ρx (wipeE env vs1) (wipe σ vs1) a ↔ Excl (Inner B env σ vs1 D) ρx env2 σ2 a := fun {ρx a} => by
          unfold Excl
          rw [ownB a]
        have EQ : ∀ {ρx : List Addr}, Excl (Inner B env σ vs1 D) ρx (wipeE env vs1) (wipe σ vs1) = Excl (Inner B env σ vs1 D) ρx env2 σ2 := fun {ρx} => funext fun a => propext exB
        have backE : ∀ {ρx : List Addr} {stx : Sto} {Hx : Hp}, EPost K (Inner B env σ vs1 D) ρi env2 σ2 Hy ρx stx Hx → EPost K (Inner B env σ vs1 D) ρ1 (wipeE env vs1) (wipe σ vs1) (upd H4 D (.lst (accV ++ us))) ρx stx Hx := fun {ρx stx Hx} F =>
          (E.trans EYp).trans ⟨Rep.back EYp.rep F.rep F.pre F.kp F.fr (fun _ _ => rfl) (fun _ _ e _ => e) (fun a n => exB.mp n) F.rep.rB, F.pre, F.kp, F.tr, F.fr⟩
        have inDD : ∀ {ρx : List Addr} {stx : Sto} {Hx : Hp}, EPost K (Inner B env σ vs1 D) ρi env2 σ2 Hy ρx stx Hx → Hx D = some (.lst (accV ++ us)) := fun {ρx stx Hx} F => F.kp D _ (EY _ _ hDi) fun z => E.rep.rB D z hBi
        have accE : ∀ {ρx : List Addr} {stx : Sto} {Hx : Hp}, EPost K (Inner B env σ vs1 D) ρi env2 σ2 Hy ρx stx Hx → RVs K (Excl (Inner B env σ vs1 D) ρx (wipeE env vs1) (wipe σ vs1)) ρx Hx acc us := fun {ρx stx Hx} F => by
          have q := F.post.rvs (p := acc) (v := us) (by rw [← EQ]; exact RVs.ext EY racc)
          rw [← EQ] at q
          exact q
        cases hcv : c1 env2 sti with
        | stuck => rw [hcv] at hloop; cases hloop
        | exc _ _ => rw [hcv] at hloop; cases hloop
        | ok k st2 =>
          rw [hcv] at hloop
          refine ⟨Inner B env σ vs1 D, ρi, env2, sti, P2.rep, ?_⟩
          rw [hcv]
          intro ρ3 H3 E3
          cases k with
          | false =>
            rw [if_neg Bool.false_ne_true]
            have hloop : lcLoop b1 c1 t (wipeE env vs1) (items.drop (i + 1)) st2 = .ok ys stf := hloop
            exact ⟨items.length - (i + 1), by omega, rfl, hlt, ρ3, st2, acc, us, ys, backE E3, inDD E3, accE E3, hloop, hys⟩
          | true =>
            rw [if_pos rfl]
            have hloop : ((t env2 st2).noE.bind fun y st => (lcLoop b1 c1 t (wipeE env vs1) (items.drop (i + 1)) st).bind fun ys st => .ok (y :: ys) st) = .ok ys stf := hloop
            cases htv : t env2 st2 with
            | stuck => rw [htv] at hloop; cases hloop
            | exc _ _ => rw [htv] at hloop; cases hloop
            | ok y st3 =>
              rw [htv] at hloop
              have hloop : ((lcLoop b1 c1 t (wipeE env vs1) (items.drop (i + 1)) st3).bind fun ys st => .ok (y :: ys) st) = .ok ys stf := hloop
              refine ⟨Inner B env σ vs1 D, ρ3, env2, st2, E3.rep, ?_⟩
              rw [htv]
              intro ρ4 H5 E4 u ru
              have E34 := E3.trans E4
              have hD5 := inDD E34
              have R4 := backE E34
              cases hrest : lcLoop b1 c1 t (wipeE env vs1) (items.drop (i + 1)) st3 with
              | stuck => rw [hrest] at hloop; cases hloop
              | exc _ _ => rw [hrest] at hloop; cases hloop
              | ok zs stz =>
                rw [hrest] at hloop
                have e5 : y :: zs = ys ∧ stz = stf := by
                  have q : RE.ok (y :: zs) stz = RE.ok ys stf := hloop
                  cases q
                  exact ⟨rfl, rfl⟩
                obtain ⟨e5, e6⟩ := e5
                subst e5 e6
                have la : us.length = acc.length := racc.len
                refine ⟨accV ++ us, hD5, ?_, items.length - (i + 1), by omega, rfl, hlt, ρ4, st3, acc ++ [y], us ++ [u], zs, ?_, by rw [upd_same, List.append_assoc], ?_, hrest, ?_⟩
                · rw [← LINE_eq, List.length_append, la]
                  rw [hys, List.length_append, List.length_cons] at hlen
                  omega
                · have q := R4.inB (o := .lst (accV ++ us ++ [u])) hBi
                  rw [upd_upd] at q
                  rw [← List.append_assoc]
                  exact q
                · have nDD : ∀ a o, H5 a = some o → ¬ Excl (Inner B env σ vs1 D) ρ4 (wipeE env vs1) (wipe σ vs1) a → (upd H5 D (.lst (accV ++ us ++ [u]))) a = some o := fun a o e n => by
                    rw [upd_ne (fun z => n (by rw [z]; exact .inl hBi))]
                    exact e
                  rw [← EQ] at ru
                  exact RVs.append (RVs.carry (fun _ _ _ z => z) nDD List.prefix_rfl _ _ (accE E34)) (.cons (RV.carry (fun _ _ _ z => z) nDD List.prefix_rfl _ _ ru) .nil)
                · rw [hys, List.append_assoc]
                  rfl
    · have ei : i = items.length := by omega
      subst ei
      refine .inl ⟨IT.stop Hi kp, ?_⟩
      have e0 : ys = [] ∧ sti = stf := by
        rw [List.drop_length] at hloop
        have q : RE.ok [] sti = RE.ok ys stf := hloop
        cases q
        exact ⟨rfl, rfl⟩
      obtain ⟨e1, e2⟩ := e0
      subst e1 e2
      have e3 : l1 = acc := by rw [hys, List.append_nil]
      subst e3
      have less : ∀ a, Excl B ρi env σ a → Excl (Inner B env σ vs1 D) ρi (wipeE env vs1) (wipe σ vs1) a := fun a n => excl_inner.mpr (.inl n)
      have EZ : EPost K B ρ1 env σ (upd H4 D (.lst (accV ++ us))) ρi sti Hi := ⟨Rep.back (R1.inB hB) E.rep E.pre E.kp E.fr (fun _ _ => rfl) (fun _ _ e _ => e) less fun a h z => E.rep.rB a h (.inl z), E.pre, E.kp, E.tr, E.fr⟩
      exact hN ρi Hi us ((E1'.inB hB).trans EZ) hDi (RVs.carry (fun a _ _ n => less a n) (fun _ _ e _ => e) List.prefix_rfl _ _ racc)
/-- the reading of a comprehension of two clauses -/
theorem lc2_reads {W : WX} {it it1 : EF (List PV)} {b b1 : BF} {vs vs1 : List Nat} {c c1 : EF Bool} {t : EF PV} {Q : VK} (hb : BOk b vs) (hbb : BOk b1 vs1)
    (R : Rep K B ρ env st σ H) (h : ROk K W B ρ env σ H (lLc2 it b vs c it1 b1 vs1 c1 t env st) (fun l ρ' st' H' => ∀ p xs H'', H' p = none → H'' = upd H' p (.lst xs) → xs.length ≤ LINE → RVs K (Excl B ρ' env σ) ρ' H' l xs → Q (.ref p) H'')) :
    tLc2 (canI K W it) (canG K b vs) (canT K WF c) (canJ K WF it1) (canG K b1 vs1) (canT K WF c1) (canE K WF t) vs vs1 σ H Q := by
  refine ⟨B, ρ, env, st, R, ROk.mono (ROk.bind h) fun items ρ1 st1 H1 E1 h1 J H1' EX IT D hD => ?_⟩
  have E1' : EPost K B ρ env σ H ρ1 st1 H1' := E1.trans (.ext E1.rep EX)
  have R1 : Rep K B ρ1 env st1 σ H1' := E1'.rep
  have h1 := ROk.shift (EPost.ext E1.rep EX) h1
  have RW : Rep K (Inner B env σ vs D) ρ1 (wipeE env vs) st1 (wipe σ vs) (upd H1' D (.lst [])) := R1.wiped hD vs
  have hBi : Inner B env σ vs D D := .inr (.inl rfl)
  have no : ∀ (xs : List PV) (s : Sto) (x : Ex) (s' : Sto), lcLoop b1 c1 t (wipeE env vs) xs s = .exc x s' → True := fun _ _ _ _ _ => trivial
  have tot : ∃ l stf, lcLoop2 b c it1 b1 vs1 c1 t (wipeE env vs) items st1 = .ok l stf ∧ l.length ≤ LINE := by
    cases hl : lcLoop2 b c it1 b1 vs1 c1 t (wipeE env vs) items st1 with
    | ok l stf =>
      refine ⟨l, stf, rfl, ?_⟩
      rw [hl] at h1
      have h1 : ROk K W B ρ1 env σ H1' (if l.length ≤ LINE then .ok l stf else .stuck) _ := h1
      by_cases hz : l.length ≤ LINE
      · exact hz
      · rw [if_neg hz] at h1
        exact h1.elim
    | stuck => rw [hl] at h1; exact h1.elim
    | exc x stf =>
      have in1 : ∀ (e : Env) (xs : List PV) (s : Sto) (x : Ex) (s' : Sto), lcLoop b1 c1 t e xs s ≠ .exc x s' := by
        intro e xs
        induction xs with
        | nil => intro s x s' z; cases z
        | cons y ys ih =>
          intro s x s' z
          unfold lcLoop at z
          cases hbv : b1 y e with
          | none => rw [hbv] at z; cases z
          | some e1 =>
            rw [hbv] at z
            dsimp only at z
            cases hc : c1 e1 s with
            | stuck => rw [hc] at z; cases z
            | exc _ _ => rw [hc] at z; cases z
            | ok k s2 =>
              rw [hc] at z
              cases k with
              | false => exact ih s2 x s' z
              | true =>
                have z : ((t e1 s2).noE.bind fun y st => (lcLoop b1 c1 t e ys st).bind fun ys st => .ok (y :: ys) st) = .exc x s' := z
                cases ht : t e1 s2 with
                | stuck => rw [ht] at z; cases z
                | exc _ _ => rw [ht] at z; cases z
                | ok v s3 =>
                  rw [ht] at z
                  have z : ((lcLoop b1 c1 t e ys s3).bind fun ys st => .ok (v :: ys) st) = .exc x s' := z
                  cases hr : lcLoop b1 c1 t e ys s3 with
                  | stuck => rw [hr] at z; cases z
                  | exc _ _ => exact ih _ _ _ hr
                  | ok _ _ => rw [hr] at z; cases z
      have no : ∀ (xs : List PV) (s : Sto) (x : Ex) (s' : Sto), lcLoop2 b c it1 b1 vs1 c1 t (wipeE env vs) xs s ≠ .exc x s' := by
        intro xs
        induction xs with
        | nil => intro s x s' z; cases z
        | cons y ys ih =>
          intro s x s' z
          unfold lcLoop2 at z
          cases hbv : b y (wipeE env vs) with
          | none => rw [hbv] at z; cases z
          | some e1 =>
            rw [hbv] at z
            dsimp only at z
            cases hc : c e1 s with
            | stuck => rw [hc] at z; cases z
            | exc _ _ => rw [hc] at z; cases z
            | ok k s2 =>
              rw [hc] at z
              cases k with
              | false => exact ih s2 x s' z
              | true =>
                have z : (((it1 e1 s2).noE.bind fun ys st => lcLoop b1 c1 t (wipeE e1 vs1) ys st).bind fun l1 st => (lcLoop2 b c it1 b1 vs1 c1 t (wipeE env vs) ys st).bind fun l2 st => .ok (l1 ++ l2) st) = .exc x s' := z
                cases hi : it1 e1 s2 with
                | stuck => rw [hi] at z; cases z
                | exc _ _ => rw [hi] at z; cases z
                | ok zs s3 =>
                  rw [hi] at z
                  have z : ((lcLoop b1 c1 t (wipeE e1 vs1) zs s3).bind fun l1 st => (lcLoop2 b c it1 b1 vs1 c1 t (wipeE env vs) ys st).bind fun l2 st => .ok (l1 ++ l2) st) = .exc x s' := z
                  cases hq : lcLoop b1 c1 t (wipeE e1 vs1) zs s3 with
                  | stuck => rw [hq] at z; cases z
                  | exc _ _ => exact in1 _ _ _ _ _ hq
                  | ok l1 s4 =>
                    rw [hq] at z
                    have z : ((lcLoop2 b c it1 b1 vs1 c1 t (wipeE env vs) ys s4).bind fun l2 st => .ok (l1 ++ l2) st) = .exc x s' := z
                    cases hr : lcLoop2 b c it1 b1 vs1 c1 t (wipeE env vs) ys s4 with
                    | stuck => rw [hr] at z; cases z
                    | exc _ _ => exact ih _ _ _ hr
                    | ok _ _ => rw [hr] at z; cases z
      exact absurd hl (no _ _ _ _)
  obtain ⟨l, stf, hl, hll⟩ := tot
  rw [hl] at h1
  have h1 : ROk K W B ρ1 env σ H1' (if l.length ≤ LINE then .ok l stf else .stuck) _ := h1
  rw [if_pos hll] at h1
  let Pw : Nat → Hp → Prop := fun i Hi => ∃ ρi sti acc accV ys, EPost K (Inner B env σ vs D) ρ1 (wipeE env vs) (wipe σ vs) H1' ρi sti Hi ∧ Hi D = some (.lst accV) ∧
    RVs K (Excl (Inner B env σ vs D) ρi (wipeE env vs) (wipe σ vs)) ρi Hi acc accV ∧ lcLoop2 b c it1 b1 vs1 c1 t (wipeE env vs) (items.drop i) sti = .ok ys stf ∧ l = acc ++ ys
  have keepOf : ∀ {Hi ρi sti}, EPost K (Inner B env σ vs D) ρ1 (wipeE env vs) (wipe σ vs) H1' ρi sti Hi → Keep (fun a => a ∈ ρ1) H1' Hi := fun {Hi ρi sti} E a o e n => E.kp a o e n
  have E0 : EPost K (Inner B env σ vs D) ρ1 (wipeE env vs) (wipe σ vs) H1' ρ1 st1 (upd H1' D (.lst [])) := ⟨RW, List.prefix_rfl, fun a o e _ => Ext.new hD a o e, (fun a h z => by
    cases e : H1' a with
    | none => exact h e
    | some u => rw [Ext.new hD a u e] at z; cases z), fun _ h n => absurd h n⟩
  refine ⟨fun i m Hi => m = items.length - i ∧ i ≤ items.length ∧ Pw i Hi, ⟨items.length, by simp, Nat.zero_le _, ρ1, st1, [], [], l, E0, upd_same, .nil, hl, rfl⟩, ?_⟩
  rintro i m Hi ⟨rfl, hi, ρi, sti, acc, accV, ys, E, hDi, racc, hloop, hys⟩
  have kp := keepOf E
  by_cases hlt : i < items.length
  · refine .inr ⟨IT.go i Hi hlt kp, fun Hn => ∃ m', m' < items.length - i ∧ (m' = items.length - (i + 1) ∧ i + 1 ≤ items.length ∧ Pw (i + 1) Hn), fun H' h' => h', fun x Hy hy => ?_⟩
    obtain ⟨EY, ry⟩ := IT.yld i Hi x Hy hlt kp hy
    have hitem : items[i]? = some items[i] := List.getElem?_eq_getElem hlt
    have lat : Later (Excl B ρ1 env σ) ρ1 H1' (Excl (Inner B env σ vs D) ρi (wipeE env vs) (wipe σ vs)) ρi Hi := by
      refine ⟨fun a o e n => ?_, fun a o e n => kp a o e fun z => n (.inr (.inl z)), E.pre, fun a h => E.rep.tr h⟩
      have n1 : Excl (Inner B env σ vs D) ρ1 (wipeE env vs) (wipe σ vs) a := by
        rcases n with n | n | n
        · exact .inl n
        · by_cases hz : a ∈ ρ1
          · exact .inr (.inl hz)
          · have q := E.fr a n hz
            rw [e] at q
            cases q
        · exact .inr (.inr n)
      rcases excl_inner.mp n1 with q | q
      · exact q
      · rw [q, hD] at e
        cases e
    have rx : RV K (Excl (Inner B env σ vs D) ρi (wipeE env vs) (wipe σ vs)) ρi Hy items[i] x := ry items[i] _ ρi hitem lat
    have EYp : EPost K (Inner B env σ vs D) ρi (wipeE env vs) (wipe σ vs) Hi ρi sti Hy := .ext E.rep EY
    rw [show items.drop i = items[i] :: items.drop (i + 1) from List.drop_eq_getElem_cons hlt] at hloop
    unfold lcLoop2 at hloop
    cases hbv : b items[i] (wipeE env vs) with
    | none => rw [hbv] at hloop; cases hloop
    | some env2 =>
      rw [hbv] at hloop
      dsimp only at hloop
      obtain ⟨hb1, hb2⟩ := hb _ _ _ hbv
      refine ⟨Inner B env σ vs D, ρi, wipeE env vs, sti, items[i], env2, EYp.rep, rx, hbv, fun σ2 P2 hl2 hk2 => ⟨wipe_same (by rw [hl2, wipe_length]) (fun j hj => (hk2 j hj).trans (by rw [wipe_get, if_neg hj])), ?_⟩⟩
      have ownB : ∀ a, Owned (wipeE env vs) (wipe σ vs) a ↔ Owned env2 σ2 a := fun a => by
        constructor
        · rintro ⟨j, m, e1, e2⟩
          have hj : j ∉ vs := fun z => by
            rw [wipeE_get, if_pos z] at e1
            split at e1 <;> cases e1
          exact ⟨j, m, (hb2 j hj).trans e1, (hk2 j hj).trans e2⟩
        · intro z
          rcases P2.ow a z with q | q
          · exact q
          · obtain ⟨xs, q2⟩ := P2.rep.oT z
            rw [q] at q2
            cases q2
      have exB : ∀ {ρx : List Addr} {a : Addr}, Excl (Inner B env σ vs D) ρx (wipeE env vs) (wipe σ vs) a ↔ Excl (Inner B env σ vs D) ρx env2 σ2 a := fun {ρx a} => by
        unfold Excl
        rw [ownB a]
      have EQ : ∀ {ρx : List Addr}, Excl (Inner B env σ vs D) ρx (wipeE env vs) (wipe σ vs) = Excl (Inner B env σ vs D) ρx env2 σ2 := fun {ρx} => funext fun a => propext exB
      -- from the beginning to here, D with anything in it
      have ED : ∀ o : HO, (∀ xs, o ≠ .tup xs) → EPost K (Inner B env σ vs D) ρ1 (wipeE env vs) (wipe σ vs) H1' ρi sti (upd Hy D o) := fun o ho => by
        have q := E.trans EYp
        refine ⟨q.rep.inB hBi ho, q.pre, fun a u e n => ?_, fun a h => ?_, q.fr⟩
        · rw [upd_ne (ne_of_none e hD)]
          exact q.kp a u e n
        · rw [upd_ne (fun z => h (by rw [z]; exact hD))]
          exact q.tr a h
      have backD : ∀ {o : HO} {ρx : List Addr} {stx : Sto} {Hx : Hp}, (∀ xs, o ≠ .tup xs) → EPost K (Inner B env σ vs D) ρi env2 σ2 (upd Hy D o) ρx stx Hx → EPost K (Inner B env σ vs D) ρ1 (wipeE env vs) (wipe σ vs) H1' ρx stx Hx := fun {o ρx stx Hx} ho F =>
        (ED o ho).trans ⟨Rep.back (ED o ho).rep F.rep F.pre F.kp F.fr (fun _ _ => rfl) (fun _ _ e _ => e) (fun a n => exB.mp n) F.rep.rB, F.pre, F.kp, F.tr, F.fr⟩
      have hDy : Hy D = some (.lst accV) := EY _ _ hDi
      have self : upd Hy D (.lst accV) = Hy := upd_id hDy
      have inDD : ∀ {ρx : List Addr} {stx : Sto} {Hx : Hp}, EPost K (Inner B env σ vs D) ρi env2 σ2 Hy ρx stx Hx → Hx D = some (.lst accV) := fun {ρx stx Hx} F => F.kp D _ hDy fun z => E.rep.rB D z hBi
      have accE : ∀ {ρx : List Addr} {stx : Sto} {Hx : Hp}, EPost K (Inner B env σ vs D) ρi env2 σ2 Hy ρx stx Hx → RVs K (Excl (Inner B env σ vs D) ρx env2 σ2) ρx Hx acc accV := fun {ρx stx Hx} F =>
        F.post.rvs (p := acc) (v := accV) (by rw [← EQ]; exact RVs.ext EY racc)
      cases hcv : c env2 sti with
      | stuck => rw [hcv] at hloop; cases hloop
      | exc _ _ => rw [hcv] at hloop; cases hloop
      | ok k st2 =>
        rw [hcv] at hloop
        refine ⟨Inner B env σ vs D, ρi, env2, sti, P2.rep, ?_⟩
        rw [hcv]
        intro ρ3 H3 E3
        cases k with
        | false =>
          rw [if_neg Bool.false_ne_true]
          have hloop : lcLoop2 b c it1 b1 vs1 c1 t (wipeE env vs) (items.drop (i + 1)) st2 = .ok ys stf := hloop
          exact ⟨items.length - (i + 1), by omega, rfl, hlt, ρ3, st2, acc, accV, ys, backD (o := .lst accV) (by intro _ z; cases z) (by rw [self]; exact E3), inDD E3, by rw [EQ]; exact accE E3, hloop, hys⟩
        | true =>
          rw [if_pos rfl]
          have hloop : (((it1 env2 st2).noE.bind fun ys st => lcLoop b1 c1 t (wipeE env2 vs1) ys st).bind fun l1 st => (lcLoop2 b c it1 b1 vs1 c1 t (wipeE env vs) (items.drop (i + 1)) st).bind fun l2 st => .ok (l1 ++ l2) st) = .ok ys stf := hloop
          cases hin : ((it1 env2 st2).noE.bind fun ys st => lcLoop b1 c1 t (wipeE env2 vs1) ys st) with
          | stuck => rw [hin] at hloop; cases hloop
          | exc _ _ => rw [hin] at hloop; cases hloop
          | ok l1 st3 =>
            rw [hin] at hloop
            have hloop : ((lcLoop2 b c it1 b1 vs1 c1 t (wipeE env vs) (items.drop (i + 1)) st3).bind fun l2 st => .ok (l1 ++ l2) st) = .ok ys stf := hloop
            cases hrest : lcLoop2 b c it1 b1 vs1 c1 t (wipeE env vs) (items.drop (i + 1)) st3 with
            | stuck => rw [hrest] at hloop; cases hloop
            | exc _ _ => rw [hrest] at hloop; cases hloop
            | ok l2 stz =>
              rw [hrest] at hloop
              have e5 : l1 ++ l2 = ys ∧ stz = stf := by
                have q : RE.ok (l1 ++ l2) stz = RE.ok ys stf := hloop
                cases q
                exact ⟨rfl, rfl⟩
              obtain ⟨e5, e6⟩ := e5
              subst e5 e6
              have la : accV.length = acc.length := racc.len
              refine lc_in hbb E3.rep hBi (inDD E3) hin (by rw [la]; rw [hys, List.length_append, List.length_append] at hll; omega) fun ρ' H' us F hD' rus => ?_
              have G := (E3.inB (o := .lst (accV ++ us)) hBi).trans F
              refine ⟨items.length - (i + 1), by omega, rfl, hlt, ρ', st3, acc ++ l1, accV ++ us, l2, backD (by intro _ z; cases z) G, hD', ?_, hrest, by rw [hys, List.append_assoc]⟩
              rw [EQ]
              refine RVs.append ?_ rus
              have r3 := accE E3
              have r4 : RVs K (Excl (Inner B env σ vs D) ρ3 env2 σ2) ρ3 (upd H3 D (.lst (accV ++ us))) acc accV := RVs.carry (fun a u _ n => n) (fun a u e n => by
                rw [upd_ne (fun z => n (by rw [z]; exact .inl hBi))]
                exact e) List.prefix_rfl _ _ r3
              exact F.post.rvs r4
  · have ei : i = items.length := by omega
    subst ei
    refine .inl ⟨IT.stop Hi kp, ?_⟩
    have e0 : ys = [] ∧ sti = stf := by
      rw [List.drop_length] at hloop
      have q : RE.ok [] sti = RE.ok ys stf := hloop
      cases q
      exact ⟨rfl, rfl⟩
    obtain ⟨e1, e2⟩ := e0
    subst e1 e2
    have e3 : l = acc := by rw [hys, List.append_nil]
    subst e3
    let Hz : Hp := fun a => if a = D then none else Hi a
    have zD : Hz D = none := if_pos rfl
    have zn : ∀ {a}, a ≠ D → Hz a = Hi a := fun h => if_neg h
    have nR : ∀ a ∈ ρi, a ≠ D := fun a h z => E.rep.rB a h (.inr (.inl z))
    have k0 : ∀ a o, H1' a = some o → a ∉ ρ1 → Hz a = some o := fun a o e n => by
      rw [zn (ne_of_none e hD)]
      exact E.kp a o e n
    have k1 : ∀ a o, Hi a = some o → ¬ Excl (Inner B env σ vs D) ρi (wipeE env vs) (wipe σ vs) a → Hz a = some o := fun a o e n => by
      rw [zn (fun z => n (by rw [z]; exact .inl (.inr (.inl rfl))))]
      exact e
    have less : ∀ a, Excl B ρi env σ a → Excl (Inner B env σ vs D) ρi (wipeE env vs) (wipe σ vs) a := fun a n => excl_inner.mpr (.inl n)
    have EZ : EPost K B ρ1 env σ H1' ρi sti Hz := ⟨Rep.back R1 E.rep E.pre k0 E.fr (fun a h => zn (nR a h)) k1 less fun a h z => E.rep.rB a h (.inl z), E.pre, k0, fun a h => by
      rw [zn (fun z => h (by rw [z]; exact hD))]
      exact E.tr a h, E.fr⟩
    refine h1 ρi Hz EZ D accV Hi zD ?_ (by rw [racc.len]; exact hll) (RVs.carry (fun a _ _ n => less a n) k1 List.prefix_rfl _ _ racc)
    funext a
    by_cases ha : a = D
    · rw [ha, upd_same, hDi]
    · rw [upd_ne ha, zn ha]
end
section
variable {X : Cx} {W : WX} {elt tg iter tg1 iter1 : Expr} {ifs ifs1 : List Expr} {scope : Scope} {own : List (Str × Nat)} {vs1 : List Nat} {pos : Pos} {it it1 : EF (List PV)} {b b1 : BF} {c c1 : EF Bool} {t : EF PV}
theorem ml_lc2 (hb : BOk b (own.map (·.2))) (hbb : BOk b1 vs1) (hv : ∀ i ∈ vs1, i ∈ own.map (·.2)) (hc : X.calm = true) (hN : X.N.Nodup) (hi : MIc X W tg iter it) (ok : BlkOk X.N X.env.scope scope own)
    (hg : ∀ (s : Shared) (H : Hp) (C : Addr) (cl : List (Str × Addr)) (fp : List Addr), MG (X.blk s H scope (compEnvC scope cl C X.env) fp) tg b (own.map (·.2)))
    (ht : ∀ (s : Shared) (H : Hp) (C : Addr) (cl : List (Str × Addr)) (fp : List Addr), MTs (X.blk s H scope (compEnvC scope cl C X.env) fp) WF ifs c)
    (hi1 : ∀ (s : Shared) (H : Hp) (C : Addr) (cl : List (Str × Addr)) (fp : List Addr), MI (X.blk s H scope (compEnvC scope cl C X.env) fp) WF tg1 iter1 it1)
    (hg1 : ∀ (s : Shared) (H : Hp) (C : Addr) (cl : List (Str × Addr)) (fp : List Addr), MG (X.blk s H scope (compEnvC scope cl C X.env) fp) tg1 b1 vs1)
    (ht1 : ∀ (s : Shared) (H : Hp) (C : Addr) (cl : List (Str × Addr)) (fp : List Addr), MTs (X.blk s H scope (compEnvC scope cl C X.env) fp) WF ifs1 c1)
    (he : ∀ (s : Shared) (H : Hp) (C : Addr) (cl : List (Str × Addr)) (fp : List Addr), ME (X.blk s H scope (compEnvC scope cl C X.env) fp) WF elt t) (hs : ∀ x, foldedSetIterable iter X.env x = pure x := by intro _; rfl) (hs1 : ∀ env x, foldedSetIterable iter1 env x = pure x := by intro _ _; rfl) :
    ML X W (.ListComp elt [⟨tg, iter, ifs, 0⟩, ⟨tg1, iter1, ifs1, 0⟩] scope pos) (lLc2 it b (own.map (·.2)) c it1 b1 vs1 c1 t) :=
  ⟨_, pe_lc2 hc hN hi.can ok hv (fun s H C cl fp => (hg s H C cl fp).can) (tt := canT X.K WF c) (fun s H C cl fp => ht s H C cl fp) (fun s H C cl fp => (hi1 s H C cl fp).canJ) (fun s H C cl fp => (hg1 s H C cl fp).can) (tt1 := canT X.K WF c1) (fun s H C cl fp => ht1 s H C cl fp) (fun s H C cl fp => (he s H C cl fp).can) hs hs1,
    fun B ρ env st σ H Q R h => lc2_reads hb hbb R h⟩
end
end PL
/-! PMa: classmethods; classes as values; texts taken apart; items counted; stars; instances that stay in the store. -/
namespace PL
variable {Zg : Prop}
open PySem PySem.Spec L2
theorem MG.more {X : Cx} {tg : Expr} {b : BF} {vs ws : List Nat} (h : MG X tg b vs) (hv : ∀ i ∈ vs, i ∈ ws) : MG X tg b ws := by
  obtain ⟨c, g, p, q⟩ := h
  refine ⟨fun pv env env1 e => ?_, g, p, fun B ρ env st σ H p v env1 Q R r e k => q B ρ env st σ H p v env1 Q R r e fun σ1 P l k2 => k σ1 P l fun j hj => k2 j fun z => hj (hv j z)⟩
  obtain ⟨c1, c2⟩ := c pv env env1 e
  exact ⟨c1, fun j hj => c2 j fun z => hj (hv j z)⟩
/-! ### classmethods -/
section
variable {X : Cx} {W : WX} {k : Nat} {f g C a dx : Addr} {mc : Value} {fd : FuncData} {ps : List Str} {sp : Sp}
theorem run_cG {pins : List (Addr × Obj)} {σ : L2.St} {H : Hp} {s : Shared} {Q : VK} {us : List Value} {vs : List V} (G : FnG Zg X.prog X.w X.K X.mg X.base k f fd ps sp) (hr : Room k X.A) (hgd : Zg → X.A.guards = some []) (hb : Binds X.K fd ps []) (tk : Takes X W)
    (I : Inv X pins σ H s) (r : Vals vs us) (h : sp vs H Q fun cls d H' => W cls d σ H') :
    codeAny (model X.prog X.w) X.A (.call (.ref f) ⟨us, []⟩) (fun r s' => match r with | .ok (.ret v) => EP X pins σ Q v s' | .ok _ => False | .error e => X.xe e s') s := by
  have hl : (us ++ []).length = ps.length := by rw [List.append_nil, ← r.length]; exact G.len _ _ _ _ h
  have hb' := hb s us I.kIn hl
  rw [List.append_nil] at hb'
  refine codeAny_mono (G.run X.A X.stack s H ⟨us, []⟩ us vs Q _ hr hgd I.env0 hb' r h) fun r s' hq => ?_
  cases r with
  | error e => exact tk e s' (XE.of_call I (fun _ _ _ h => h) hq)
  | ok fl =>
    cases fl with
    | ret u => exact I.after hq
    | next => exact False.elim hq
    | brk => exact False.elim hq
    | cont => exact False.elim hq
/-- C.m(..): F at the class and the values -/
def eCMeth (c0 : Str) (F : Fn) (a : EF (List PV)) : EF PV := fun e st => (a e st).bind fun xs st => F (.cls c0 :: xs) st
theorem m_cmeth {c0 m : Str} {p : Addr} {e : Expr} {es : List Expr} {F : Fn} {ga : EF (List PV)} {pos apos np : Pos} {pl : Sem Bool} (r : ClX.CRead X.K (He.ga X.K c0) mc) (c : ClX.CMet X.K (He.ga X.K c0) mc m p g) (G : CalA Zg X.prog X.w X.K X.mg X.base k g ps F) (hr : Room k X.A) (hgd : Zg → X.A.guards = some []) (tk : Takes X W)
    (hg : Gl X c0) (hm : X.mg c0 = some (.ref (He.ga X.K c0))) (ha : MA X W (e :: es) ga) (hn : (e :: es).length + 1 = ps.length) (hlen : ∀ en st l st', ga en st = .ok l st' → l.length = (e :: es).length) (hd : (c0 == ("__debug__" : Str)) = false := by decide)
    (hst : starEach (e :: es) X.env = (false, eval e X.env) :: starEach es X.env := by rfl) (hpl : (backTo pos (starEach es X.env)).any (·.1) = false := by rfl)
    (ht : eval (.Call (.Attribute (.Name c0 np) m apos) (e :: es) [] pos) X.env = (do
      let ov ← eval (.Name c0 np) X.env
      standAt apos.atName
      let (f, first) ← holding [ov] (getMethod ov m pl)
      callWith pos f first (backTo pos (starEach (e :: es) X.env)) (backToKw pos (keywordEach [] X.env))) := by rfl) :
    ME X W (.Call (.Attribute (.Name c0 np) m apos) (e :: es) [] pos) (eCMeth c0 F ga) := by
  obtain ⟨ta, pa, qa⟩ := ha
  obtain ⟨fd, G, bd⟩ := G
  refine ⟨fun σ H Q => ta σ H fun vs H2 => spF X.K ps.length F (.ref (He.ga X.K c0) :: vs) H2 Q fun cls d H' => W cls d σ H', ⟨fun pins s σ H Q I h => ?_⟩, fun B ρ env st σ H Q R h => ?_⟩
  · refine PySem.W.methodCall_KW (pl := pl) (ld_glob I hg hm ?_ hd) ht
    refine ClX.getmethcm_ok I r c fun s2 I2 => ?_
    refine ClX.callwith_cm I2 (ClX.base_none I (Nat.le_refl _)) c.fi (thn (pa.run pos _ s2 σ H _ I2 h) fun us s3 ⟨vs, H2, I3, rv, q2⟩ => ⟨⟨ClX.pin_at I3, I3.kIn⟩, ?_⟩) hst hpl
    exact thn (wpAny_call (PySem.W.method_call (ClX.pin_at I3) (run_cG (us := .ref (He.ga X.K c0) :: us) (vs := .ref (He.ga X.K c0) :: vs) G hr hgd bd tk I3 (.cons rfl rv) q2))) fun _ _ y => ClX.unpinE y
  · refine qa B ρ env st σ H _ R ?_
    unfold eCMeth at h
    cases hga : ga env st with
    | stuck => rw [hga] at h; exact h.elim
    | exc y st' => rw [hga] at h; exact h
    | ok l st' =>
      rw [hga] at h
      refine fun ρ2 H2 E2 us rus => spF_of E2.rep (.cons mk_cls rus) ?_ (ROk.shift E2 h)
      rw [List.length_cons, hlen _ _ _ _ hga]
      exact hn
/-- x(..), x a class -/
def eMakeV (c0 : Str) (F : Fn) (n m len : Nat) (dps : List PV) (l : List Src) (x : EF PV) (a gk : EF (List PV)) : EF PV := fun e st => (x e st).bind fun p st => match p with
  | .cls c => if c = c0 then eMake c0 F n m len dps l a gk e st else .stuck
  | _ => .stuck
theorem m_makeV {c0 x : Str} {n : Nat} {ks : List Str} {dps : List PV} {F : Fn} {sh : List (Nat × List Str × List Src)} {l : List Src} {p pos : Pos} {e : Expr} {es : List Expr} {kws : List Keyword} {fx : EF PV} {ga gk : EF (List PV)} (hx : ME X W (.Name x p) fx)
    (c : Maker Zg X.prog X.w X.K X.mg X.base k c0 ps dps F sh) (hq : (n, ks, l) ∈ sh) (hl : l.all (fun s => match s with | .pos 0 => false | _ => true) = true) (hr : Room (k + 1) X.A) (hgd : Zg → X.A.guards = some []) (tk : Takes X W)
    (ha : MA X W (e :: es) ga) (hkw : MK X W kws gk) (hall : (backToKw pos (keywordEach kws X.env)).all (·.1.isSome) = true := by rfl) (hks : (backToKw pos (keywordEach kws X.env)).filterMap (·.1) = ks := by rfl)
    (he : starEach (e :: es) X.env = (false, eval e X.env) :: starEach es X.env := by rfl)
    (hpl : ((backTo pos (starEach (e :: es) X.env)).any (·.1) || (backToKw pos (keywordEach kws X.env)).any (·.1.isNone)) = false := by rfl) :
    ME X W (.Call (.Name x p) (e :: es) kws pos) (eMakeV c0 F n ks.length ps.length dps l fx ga gk) := by
  obtain ⟨f, fd, dvs, G, hm, M, hd, hs⟩ := c
  obtain ⟨its, kb⟩ := hs _ hq
  obtain ⟨tx, px, qx⟩ := hx
  obtain ⟨ta, pa, qa⟩ := ha
  obtain ⟨tk', pk, qk⟩ := hkw
  refine ⟨fun σ H Q => tx σ H fun v H1 => v = .ref (He.ga X.K c0) ∧ tMakeG (He.ga X.K c0) W n ks.length (spF X.K ps.length F) (fun vs zs => plan (.pos 0 :: l) vs dvs zs) ta tk' σ H1 Q, ⟨fun pins s σ H Q I h => ?_⟩, fun B ρ env st σ H Q R h => ?_⟩
  · refine wpAny_Call_Name_kw (thn (px.run pins s σ H _ I h) fun u s1 ⟨v, H1, I1, rv, ev, q⟩ => ?_)
    subst ev
    obtain rfl : u = Value.ref (He.ga X.K c0) := rv
    refine PySem.W.callWith_KW (h₀ := X.base) I.ok.mod.kin M.kp hall (thn (pa.run pos pins s1 σ H1 _ I1 q) fun us s2 ⟨vs, H2, I2, r2, q2⟩ => ?_) hpl he
    refine thn (pk.run pos pins s2 σ H2 _ I2 q2) fun ws s3 ⟨zs, H3, I3, rz, l12, q3⟩ => ⟨I3.kIn, ?_⟩
    rw [hks]
    exact run_makeG M G hr hgd kb tk I3 r2 rz l12.1 l12.2 q3
  · refine qx B ρ env st σ H _ R (ROk.mono (ROk.bind h) fun pv ρ1 st1 H1 E1 h1 u ru => ?_)
    cases pv with
    | cls c =>
      dsimp only at h1
      split at h1
      · rename_i ec
        subst ec
        exact ⟨rv_cls ru, ref_make hl hd qa qk B ρ1 env st1 σ H1 Q E1.rep h1⟩
      · exact h1.elim
    | _ => exact h1.elim
end
/-! ### texts taken apart -/
def slS : PV → Option Int → Option Int → Option PV
  | .str z, lo, hi => if z.length ≤ LINE then some (.str (L2.cutS z lo hi)) else none
  | _, _, _ => none
def eSlS (f : EF PV) (lo hi : EF (Option Int)) : EF PV := fun e st => (f e st).bind fun v st => (lo e st).bind fun i st => (hi e st).bind fun j st => .of (slS v i j) st
def iStrF (f : EF PV) : EF (List PV) := fun e st => (f e st).bind fun v st => match v with
  | .str z => if z.length ≤ LINE then .ok (z.cps.toList.map fun c => PV.str ⟨#[c]⟩) st else .stuck
  | _ => .stuck
def inSign : PV → PV → Option PV
  | .str x, .str z => match x.cps.toList with
    | [c] => some (.bl (decide (c ∈ z.cps.toList)))
    | _ => none
  | _, _ => none
def startF (a : Str) : PV → Option PV
  | .str b => some (.bl (PySem.Txt.startswith a b))
  | _ => none
def endF (a : Str) : PV → Option PV
  | .str b => some (.bl (PySem.Txt.endswith a b))
  | _ => none
def splitF (a : Str) : PV → Option (List PV)
  | .str b => if ((b.length == 0) = false ∧ a.length + 2 ≤ LINE) ∧ (PySem.Txt.split a b).length ≤ LINE then some ((PySem.Txt.split a b).map PV.str) else none
  | _ => none
def partF (a : Str) : PV → Option PV
  | .str b => if (b.length == 0) = false ∧ a.length ≤ LINE then some (.tup [.str (PySem.Txt.partition a b).1, .str (PySem.Txt.partition a b).2.1, .str (PySem.Txt.partition a b).2.2]) else none
  | _ => none
/-- a text's method that makes a list -/
def lTx (op : Str → PV → Option (List PV)) (a b : EF PV) : EF (List PV) := fun e st => (a e st).bind fun p st => match p with
  | .str x => (b e st).bind fun q st => .of (op x q) st
  | _ => .stuck
def intF : List PV → Option PV
  | [.str a] => match PySem.intText? a with
    | some n => if a.length ≤ 640 then some (.int n) else none
    | none => none
  | [.int i] => some (.int i)
  | [.bl b] => some (.int (if b then 1 else 0))
  | _ => none
def eCount (fo fe : EF PV) : EF PV := fun e st => (fo e st).bind fun l st => match l with
  | .lst l => (fe e st).bind fun k st => match k, intsOf l with
    | .int k, some ns => .ok (.int (ns.count k : Nat)) st
    | _, _ => .stuck
  | _ => .stuck
section
variable {X : Cx} {W : WX} {e o k tg : Expr} {es : List Expr} {f fe fo : EF PV} {lo hi : Option Expr} {fl fh : EF (Option Int)} {g : EF (List PV)} {pos p p2 apos : Pos}
theorem m_sliceS (ha : ME X W e f) (hl : MO X W lo fl) (hh : MO X W hi fh) : ME X W (.Subscript e (.Slice lo hi none p2) pos) (eSlS f fl fh) := by
  obtain ⟨ta, pa, qa⟩ := ha
  obtain ⟨tl, pl, ql⟩ := hl
  obtain ⟨th, ph, qh⟩ := hh
  refine ⟨_, pe_slice sl_str pa pl ph, fun B ρ env st σ H Q R h => ?_⟩
  refine qa B ρ env st σ H _ R (ROk.mono (ROk.bind h) fun p ρ1 st1 H1 E1 h1 x rx => ?_)
  refine ql B ρ1 env st1 σ H1 _ E1.rep (ROk.mono (ROk.bind h1) fun i ρ2 st2 H2 E2 h2 => ?_)
  refine qh B ρ2 env st2 σ H2 _ E2.rep (ROk.mono (ROk.bind h2) fun j ρ3 st3 H3 E3 h3 => ?_)
  obtain ⟨z, ez, hz⟩ := ROk.of E3.rep h3
  cases p with
  | str y =>
    unfold slS at ez
    dsimp only at ez
    split at ez
    · rename_i hc
      cases ez
      exact ⟨y, rv_str rx, by rw [← LINE_eq]; exact hc, hz H3 Ext.refl _ mk_str⟩
    · cases ez
  | _ => cases ez
theorem mi_str (h : ME X W e f) : MI X W tg e (iStrF f) := by
  obtain ⟨t, pt, q⟩ := h
  refine ⟨_, pi_str (tg := tg) pt, fun B ρ env st σ H R Rp h => ?_⟩
  refine q B ρ env st σ H _ Rp (ROk.mono (ROk.bind h) fun pv ρ1 st1 H1 E1 h1 u ru => ?_)
  cases pv with
  | str z =>
    dsimp only at h1
    split at h1
    · rename_i hz
      refine ⟨z, rv_str ru, h1 ρ1 H1 (.refl E1.rep) _ H1 Ext.refl ⟨by rw [List.length_map]; exact hz, fun i Hi hi k => ?_, fun Hi k => ?_, fun i Hi x Hy hi k y => ?_⟩⟩
      · rw [List.length_map] at hi
        exact hi
      · show z.cps.size ≤ (z.cps.toList.map fun c => PV.str ⟨#[c]⟩).length
        rw [List.length_map]
        exact Nat.le_refl _
      · obtain ⟨eh, c, hc, ex⟩ := (show Hy = Hi ∧ ∃ c, z.cps[i]? = some c ∧ x = .str ⟨#[c]⟩ from y)
        subst eh ex
        refine ⟨Ext.refl, fun p N' ρ' hp L => ?_⟩
        rw [List.getElem?_map, Array.getElem?_toList, hc] at hp
        cases hp
        exact mk_str
    · exact h1.elim
  | _ => exact h1.elim
theorem p_inSign : OpP X (compareOp .In) inSign := by
  refine ⟨_, op_in_sign, fun N ρ H x y p q z Q hN hx hy ho hQ => ?_⟩
  unfold inSign at ho
  split at ho
  · rename_i a b
    split at ho
    · rename_i c ec
      cases ho
      have ea : a = ⟨#[c]⟩ := Str.ext' (by rw [← Array.toList_inj, ec])
      exact ⟨c, b, by rw [rvb_str hx, ea], rvb_str hy, hQ H _ Ext.refl mk_bl⟩
    · cases ho
  · cases ho
theorem tx1_ref {t1 t2 : TE} {op : Str → PV → Option PV} {r : V → List V → Hp → VK → Prop} (hop : ∀ N ρ H x q y z Q, op x q = some z → RV X.K N ρ H q y → (∀ H' w, Ext H H' → RV X.K N ρ H' z w → Q w H') → (∀ a, N a → H a ≠ none) → r (.str x) [y] H Q)
    (q1 : RefG X.K W t1 fo (RV X.K)) (q2 : RefG X.K W t2 fe (RV X.K)) : RefG X.K W (tM1 r t1 t2) (eTx op fo fe) (RV X.K) := by
  intro B ρ env st σ H Q R h
  refine q1 B ρ env st σ H _ R (ROk.mono (ROk.bind h) fun pv ρ1 st1 H1 E1 h1 x rx => ?_)
  cases pv with
  | str a =>
    refine ⟨⟨a, rv_str rx⟩, q2 B ρ1 env st1 σ H1 _ E1.rep (ROk.mono (ROk.bind h1) fun qv ρ2 st2 H2 E2 h2 y ry => ?_)⟩
    obtain ⟨z, ez, hz⟩ := ROk.of E2.rep h2
    rw [rv_str rx]
    exact hop _ _ _ _ _ _ _ _ ez ry (fun H' w e r => hz H' e w r) fun b hb => E2.rep.tr hb
  | _ => exact h1.elim
theorem m_starts (ho : ME X W o fo) (he : ME X W e fe) (hs : starEach [e] X.env = [(false, eval e X.env)] := by rfl) (hbase : attributeBase o "startswith" X.env (eval o X.env) = eval o X.env := by rfl) (hline : (apos.endLine == pos.line) = true := by rfl) :
    ME X W (.Call (.Attribute o "startswith" apos) [e] [] pos) (eTx startF fo fe) := by
  obtain ⟨to, po, qo⟩ := ho
  obtain ⟨te, pe, qe⟩ := he
  refine ⟨_, pe_m1 PySem.F.slot_str_startswith PySem.F.type_str_startswith mt_startswith po pe hs hbase hline, tx1_ref (fun N ρ H x q y z Q e r hQ _ => ?_) qo qe⟩
  cases q with
  | str b => cases e; exact ⟨x, b, rfl, by rw [rv_str r], hQ H _ Ext.refl mk_bl⟩
  | _ => cases e
theorem m_ends (ho : ME X W o fo) (he : ME X W e fe) (hs : starEach [e] X.env = [(false, eval e X.env)] := by rfl) (hbase : attributeBase o "endswith" X.env (eval o X.env) = eval o X.env := by rfl) (hline : (apos.endLine == pos.line) = true := by rfl) :
    ME X W (.Call (.Attribute o "endswith" apos) [e] [] pos) (eTx endF fo fe) := by
  obtain ⟨to, po, qo⟩ := ho
  obtain ⟨te, pe, qe⟩ := he
  refine ⟨_, pe_m1 PySem.F.slot_str_endswith PySem.F.type_str_endswith mt_endswith po pe hs hbase hline, tx1_ref (fun N ρ H x q y z Q e r hQ _ => ?_) qo qe⟩
  cases q with
  | str b => cases e; exact ⟨x, b, rfl, by rw [rv_str r], hQ H _ Ext.refl mk_bl⟩
  | _ => cases e
theorem m_part (ho : ME X W o fo) (he : ME X W e fe) (hs : starEach [e] X.env = [(false, eval e X.env)] := by rfl) (hbase : attributeBase o "partition" X.env (eval o X.env) = eval o X.env := by rfl) (hline : (apos.endLine == pos.line) = true := by rfl) :
    ME X W (.Call (.Attribute o "partition" apos) [e] [] pos) (eTx partF fo fe) := by
  obtain ⟨to, po, qo⟩ := ho
  obtain ⟨te, pe, qe⟩ := he
  refine ⟨_, pe_partition po pe hs hbase hline, tx1_ref (fun N ρ H x q y z Q e r hQ hN => ?_) qo qe⟩
  cases q with
  | str b =>
    unfold partF at e
    dsimp only at e
    split at e
    · rename_i hc
      cases e
      refine ⟨x, b, rfl, by rw [rv_str r], hc.1, by rw [← LINE_eq]; exact hc.2, fun p np => hQ _ _ (.new np) (mk_tup (fun z => hN p z np) upd_same (show (3 : Nat) ≤ LINE by decide) ?_)⟩
      exact .cons mk_str (.cons mk_str (.cons mk_str .nil))
    · cases e
  | _ => cases e
theorem ml_split (ho : ME X W o fo) (he : ME X W e fe) (hs : starEach [e] X.env = [(false, eval e X.env)] := by rfl) (hbase : attributeBase o "split" X.env (eval o X.env) = eval o X.env := by rfl) (hline : (apos.endLine == pos.line) = true := by rfl) :
    ML X W (.Call (.Attribute o "split" apos) [e] [] pos) (lTx splitF fo fe) := by
  obtain ⟨to, po, qo⟩ := ho
  obtain ⟨te, pe, qe⟩ := he
  refine ⟨_, pe_split po pe hs hbase hline, fun B ρ env st σ H Q R h => ?_⟩
  refine qo B ρ env st σ H _ R (ROk.mono (ROk.bind h) fun pv ρ1 st1 H1 E1 h1 x rx => ?_)
  cases pv with
  | str a =>
    refine ⟨⟨a, rv_str rx⟩, qe B ρ1 env st1 σ H1 _ E1.rep (ROk.mono (ROk.bind h1) fun qv ρ2 st2 H2 E2 h2 y ry => ?_)⟩
    cases qv with
    | str b =>
      unfold splitF at h2
      dsimp only at h2
      split at h2
      · rename_i hc
        refine ⟨a, b, rv_str rx, by rw [rv_str ry], hc.1.1, by rw [← LINE_eq]; exact hc.1.2, fun p np => ?_⟩
        have rl : RVs X.K (Excl B ρ2 env σ) ρ2 H2 ((PySem.Txt.split a b).map PV.str) ((PySem.Txt.split a b).map V.str) := by
          generalize PySem.Txt.split a b = l
          induction l with
          | nil => exact .nil
          | cons s l ih => exact .cons mk_str ih
        exact h2 ρ2 H2 (.refl E2.rep) p _ _ np rfl (by rw [List.length_map]; exact hc.2) rl
      · exact h2.elim
    | _ => exact h2.elim
  | _ => exact h1.elim
theorem c_int : CallP X (.type "int") intF := by
  refine ⟨fun xs H Q => (∃ a n, xs = [.str a] ∧ PySem.intText? a = some n ∧ a.length ≤ 640 ∧ Q (.int n) H) ∨ ((∃ i, xs = [.int i] ∧ Q (.int i) H) ∨ ∃ k, xs = [.bl k] ∧ Q (.int (if k then 1 else 0)) H), fun pins s σ H xs us Q I r h => ?_, fun N ρ H xs ps z Q hN hx ho hQ => ?_⟩
  · rcases h with h | h
    · exact call_int_str pins s σ H xs us Q I r h
    · exact call_int1 pins s σ H xs us Q I r h
  · unfold intF at ho
    split at ho
    · split at ho
      · rename_i n e
        split at ho
        · rename_i hl
          cases ho
          obtain ⟨v, rfl, r, _⟩ := hx.one
          exact .inl ⟨_, n, by rw [rvb_str r], e, hl, hQ H _ Ext.refl mk_int⟩
        · cases ho
      · cases ho
    · cases ho
      obtain ⟨v, rfl, r, _⟩ := hx.one
      exact .inr (.inl ⟨_, by rw [rvb_int r], hQ H _ Ext.refl mk_int⟩)
    · cases ho
      obtain ⟨v, rfl, r, _⟩ := hx.one
      exact .inr (.inr ⟨_, by rw [rvb_bl r], hQ H _ Ext.refl mk_int⟩)
    · cases ho
theorem g_int (hm : X.mg "int" = none) (ha : MAb X W (e :: es) g) (hg : Gl X "int" := by rfl) (he : starEach (e :: es) X.env = (false, eval e X.env) :: starEach es X.env := by rfl) (hpl : (backTo pos (starEach es X.env)).any (·.1) = false := by rfl) : ME X W (.Call (.Name "int" p) (e :: es) [] pos) (eB intF g) := m_callTy c_int hg hm (by decide +kernel) ha (by decide) (by decide) he hpl
/-- (*a, ..) -/
def aStar (a : EF PV) (r : EF (List PV)) : EF (List PV) := fun e st => (a e st).bind fun x st => match x with
  | .tup l => (r e st).bind fun ys st => .ok (l ++ ys) st
  | .tud l => (r e st).bind fun ys st => .ok (l ++ ys) st
  | .lst l => (r e st).bind fun ys st => .ok (l ++ ys) st
  | _ => .stuck
end
end PL
/-! PMb: instances that stay in the store; own objects called. -/
namespace PL
variable {Zg : Prop}
open PySem PySem.Spec L2
section
variable {K : PySem.W.Frag} {B : Addr → Prop} {ρ : List Addr} {env : Env} {st : Sto} {σ : L2.St} {H : Hp}
/-- a new thing of the store -/
theorem EPost.newCell (R : Rep K B ρ env st σ H) {p : Addr} {c : Cell} {o : HO} (np : H p = none) (hc : CellOk K (Excl B (ρ ++ [p]) env σ) (ρ ++ [p]) (upd H p o) c p) :
    EPost K B ρ env σ H (ρ ++ [p]) (st ++ [c]) (upd H p o) := by
  have E : Ext H (upd H p o) := Ext.new np
  have tr : ∀ a, H a ≠ none → (upd H p o) a ≠ none := fun a h z => by
    cases e : H a with
    | none => exact h e
    | some u => rw [E a u e] at z; cases z
  have pr : p ∉ ρ := fun z => R.rT p z np
  have less : ∀ a u, H a = some u → Excl B (ρ ++ [p]) env σ a → Excl B ρ env σ a := fun a u e n => by
    rcases n with n | n | n
    · exact .inl n
    · rcases List.mem_append.mp n with n | n
      · exact .inr (.inl n)
      · rw [List.mem_singleton.mp n, np] at e
        cases e
    · exact .inr (.inr n)
  refine ⟨⟨R.lenE, by simp [R.lenC], List.nodup_append.mpr ⟨R.nd, by simp, fun a ha c hc z => pr (by rw [← List.mem_singleton.mp hc, ← z]; exact ha)⟩, fun n c2 a h1 h2 => ?_, fun a h => ?_, fun a h => ?_, fun a h => (R.bN a h).keep fun o e => E a o e, fun i e h => ?_, fun a h => ?_, R.sep⟩, List.prefix_append _ _, fun a u e _ => E a u e, tr, fun a h n => ?_⟩
  · by_cases hn : n < st.length
    · rw [List.getElem?_append_left hn] at h1
      rw [List.getElem?_append_left (by rw [R.lenC]; exact hn)] at h2
      exact (R.cell n c2 a h1 h2).carry less (fun a u e _ => E a u e) (List.prefix_append ρ [p]) fun u q => E a u q
    · rw [List.getElem?_append_right (by omega)] at h1
      rw [List.getElem?_append_right (by rw [R.lenC]; omega), R.lenC] at h2
      have e0 : n - st.length = 0 := by
        by_cases h0 : n - st.length = 0
        · exact h0
        · rw [List.getElem?_eq_none (by simp; omega)] at h1
          cases h1
      rw [e0] at h1 h2
      cases h1
      cases h2
      exact hc
  · rcases List.mem_append.mp h with h | h
    · exact tr a (R.rT a h)
    · rw [List.mem_singleton.mp h, upd_same]
      exact fun z => by cases z
  · rcases List.mem_append.mp h with h | h
    · exact R.rB a h
    · rw [List.mem_singleton.mp h]
      exact fun z => R.bT p z np
  · have q := R.slot i e h
    cases e with
    | non => trivial
    | val v =>
      obtain ⟨u, q1, q2⟩ := q
      exact ⟨u, q1, RV.carry less (fun a u e _ => E a u e) (List.prefix_append ρ [p]) _ _ q2⟩
    | own m =>
      obtain ⟨b, ys, q0, q1, q2, q3⟩ := q
      exact ⟨b, ys, q0, E b _ q1, q2, RVs.carry less (fun a u e _ => E a u e) (List.prefix_append ρ [p]) _ _ q3⟩
  · refine ⟨fun z => ?_, (R.oR a h).2⟩
    rcases List.mem_append.mp z with z | z
    · exact (R.oR a h).1 z
    · obtain ⟨ys, q⟩ := R.oT h
      rw [List.mem_singleton.mp z, np] at q
      cases q
  · rcases List.mem_append.mp h with h | h
    · exact absurd h n
    · rw [List.mem_singleton.mp h]
      exact np
/-- C(..) that stays in the store -/
def makS (c0 : Str) (F : Fn) (xs : List PV) (st : Sto) : RE PV := match F (.gl st.length :: xs) (st ++ [.ins c0 [] []]) with
  | .ok .non st' => .ok (.gl st.length) st'
  | .exc x st' => .exc x st'
  | _ => .stuck
end
def eMakeS (c0 : Str) (F : Fn) (n m len : Nat) (dps : List PV) (l : List Src) (a gk : EF (List PV)) : EF PV := fun e st => (a e st).bind fun xs st => (gk e st).bind fun zs st =>
  if (xs.length = n ∧ zs.length = m) ∧ (plan l (.non :: xs) dps zs).length + 1 = len then makS c0 F (plan l (.non :: xs) dps zs) st else .stuck
section
variable {X : Cx} {W : WX} {k n : Nat} {c0 : Str} {ps ks : List Str} {dps : List PV} {F : Fn} {sh : List (Nat × List Str × List Src)} {l : List Src} {p pos : Pos} {e : Expr} {es : List Expr} {kws : List Keyword} {g gk : EF (List PV)}
end
/-! ### o(..), o an own object -/
section
variable {X : Cx} {W : WX} {k : Nat} {f : Addr} {c0 x : Str} {ps : List Str} {F : Fn} {e : Expr} {es : List Expr} {fx : EF PV} {g : EF (List PV)} {p pos : Pos}
def eCallO (c0 : Str) (n : Nat) (F : Fn) (o : EF PV) (a : EF (List PV)) : EF PV := fun e st => (o e st).bind fun p st => if isIns c0 st p = true then (a e st).bind fun xs st => if isIns c0 st p = true ∧ xs.length + 1 = n then F (p :: xs) st else .stuck else .stuck
end
end PL
/-! PMc: checks for classmethods and own ==, short forms; a field that is called. -/
namespace PL
variable {Zg : Prop}
open PySem PySem.Spec L2
theorem BOk.more {b : BF} {vs ws : List Nat} (h : BOk b vs) (hv : ∀ i ∈ vs, i ∈ ws) : BOk b ws := fun p env env1 e =>
  let ⟨c1, c2⟩ := h p env env1 e
  ⟨c1, fun j hj => c2 j fun z => hj (hv j z)⟩
/-! ### the head: classmethods -/
theorem chkCMet_ok {K : PySem.W.Frag} {c f : Str} (h : chkCMet c f K = true) : ClX.CMet K (He.ga K c) (.type "type") f (entC K c f) (cmA K c f) := by
  obtain ⟨h1, h2⟩ := and_true2 h
  obtain ⟨h2, h3⟩ := and_true2 h2
  refine ⟨?_, ?_, h3⟩
  · unfold entC
    cases e : PySem.W.findCls K (.ref (He.ga K c)) (.type "type") f with
    | none => rw [e] at h1; cases h1
    | some o =>
      rw [e] at h1
      cases o with
      | get g p n d =>
        cases p with
        | ref p =>
          obtain ⟨e1, e2, e3⟩ := of_decide_eq_true h1
          rw [e1, e2, e3]
        | _ => cases h1
      | _ => cases h1
  · unfold cmA
    cases e : PySem.W.recIn K (entC K c f) "classmethod" with
    | none => rw [e] at h2; cases h2
    | some l =>
      rw [e] at h2
      cases l with
      | nil => cases h2
      | cons v r =>
        cases v with
        | ref g => exact ⟨r, rfl⟩
        | _ => cases h2
/-- own ==, with the usual != -/
structure NeOf (K : PySem.W.Frag) (C : Addr) : Prop where
  ne : PySem.W.findIn K (.ref C) "__ne__" = some (some (.builtin "object.__ne__"))
  mro : PySem.W.mroIn K C (.type "object") = some true
end PL
namespace PySem.W
open PySem PySem.Spec PySem.Calls
section
variable {prog : Program} {w : World} {A : Around} {E : Value → Shared → Prop} {s : Shared} {K : Frag} {x C f : Addr} {ox : Obj} {od : Option Obj} {b tb : Value}
open Builtin in
end
end PySem.W
namespace PL
open PySem PySem.Spec L2
/-! ### own == and != -/
section
variable {X : Cx} {W : WX} {a b : Expr} {fa fb : EF PV} {c0 : Str} {pos : Pos} {k j : Nat} {f : Addr} {ps : List Str} {F : Fn}
/-- o == p by o's own __eq__, p of the same class -/
def rOwn2 (C : Addr) (sp : Sp) : R2 := fun x y H Q => ∃ a dx fs b dy gs, (x = .ref a ∧ H a = some (.ins C dx fs)) ∧ (y = .ref b ∧ H b = some (.ins C dy gs)) ∧ sp [.ref a, .ref b] H (fun v H' => ∃ k, v = .bl k ∧ Q (.bl k) H') fun _ _ _ => False
theorem op_eqO {fd : FuncData} {sp : Sp} {C : Addr} (hm : Meth X.K C "__eq__" f) (G : FnG Zg X.prog X.w X.K X.mg X.base k f fd ps sp) (hr : Room (k + 1) X.A) (hgd : Zg → X.A.guards = some []) (hb : Binds X.K fd ps []) : OpR X (compareOp .Eq) (rOwn2 C sp) := by
  intro pins s σ H x y v u Q I rx ry h
  obtain ⟨a, dx, fs, b, dy, gs, ⟨rfl, ea⟩, ⟨rfl, eb⟩, h⟩ := h
  obtain rfl : v = Value.ref a := rx
  obtain rfl : u = Value.ref b := ry
  obtain ⟨mA, O, _⟩ := ins_get I.hok ea
  obtain ⟨od, J, _⟩ := O.look
  obtain ⟨mB, O2, _⟩ := ins_get I.hok eb
  obtain ⟨od2, J2, _⟩ := O2.look
  obtain ⟨m, Fm⟩ := I.fr
  have hu : X.A.in1.units < cLine := hr.in1.units0
  have hu0 : X.A.units < cLine := hr.units0
  unfold compareOp
  refine PySem.W.cmp_K hu0 Fm I.mod.kin J J2.type (by unfold PySem.W.notFirst; rw [beq_self_eq_true]; rfl) hm.at_ hm.fn ?_
  have hl : ([Value.ref a, .ref b] ++ []).length = ps.length := G.len _ _ _ _ h
  have hb' := hb s [.ref a, .ref b] I.kIn hl
  refine wpAny_call (codeAny_mono (G.run X.A X.stack s H ⟨[.ref a, .ref b], []⟩ [.ref a, .ref b] [.ref a, .ref b] (fun v H' => ∃ k, v = .bl k ∧ Q (.bl k) H') _ (hr.mono (Nat.le_succ k)) hgd I.env0 hb' (.cons rfl (.cons rfl .nil)) h) fun r s' hq => ?_)
  cases r with
  | error e =>
    obtain ⟨_, _, _, _, _, _, _, _, _, _, _, _, z⟩ := hq
    exact z.elim
  | ok fl =>
    cases fl with
    | ret u =>
      obtain ⟨v, H', I', rv, k, rfl, q⟩ := I.after hq
      obtain rfl : u = Value.bool k := rv
      exact ⟨.bl k, H', I', rfl, q⟩
    | next => exact False.elim hq
    | brk => exact False.elim hq
    | cont => exact False.elim hq
def eCmpO (c0 : Str) (neg : Bool) (F : Fn) (fa fb : EF PV) : EF PV := fun e st => (fa e st).bind fun p st => (fb e st).bind fun q st => if isIns c0 st p = true ∧ isIns c0 st q = true then match F [p, q] st with
  | .ok (.bl k) st => .ok (.bl (k ^^ neg)) st
  | _ => .stuck
  else .stuck
theorem cmpO_ref {t1 t2 : TE} {neg : Bool} {r : R2} (hl : ps.length = 2) (hr : ∀ x y H Q, (rOwn2 (He.ga X.K c0) (spF X.K ps.length F) x y H fun v H' => ∃ k, v = .bl k ∧ Q (.bl (k ^^ neg)) H') → r x y H Q)
    (q1 : RefG X.K W t1 fa (RV X.K)) (q2 : RefG X.K W t2 fb (RV X.K)) : RefG X.K W (tOp r t1 t2) (eCmpO c0 neg F fa fb) (RV X.K) := by
  intro B ρ env st σ H Q R h
  refine q1 B ρ env st σ H _ R (ROk.mono (ROk.bind h) fun p ρ1 st1 H1 E1 h1 x rx => ?_)
  refine q2 B ρ1 env st1 σ H1 _ E1.rep (ROk.mono (ROk.bind h1) fun q ρ2 st2 H2 E2 h2 y ry => ?_)
  by_cases hi : isIns c0 st2 p = true ∧ isIns c0 st2 q = true
  · rw [if_pos hi] at h2
    have rx2 := E2.post.rv rx
    obtain ⟨_, _, ei⟩ := isIns_some hi.1
    obtain ⟨_, _, ej⟩ := isIns_some hi.2
    obtain ⟨a, dx, ws, rfl, k1, _, _⟩ := ins_at E2.rep rx2 ei
    obtain ⟨b, dy, zs, rfl, m1, _, _⟩ := ins_at E2.rep ry ej
    refine hr _ _ _ _ ⟨a, dx, _, b, dy, _, ⟨rfl, k1⟩, ⟨rfl, m1⟩, spF_of (W := WF) E2.rep (.cons rx2 (.cons ry .nil)) (by rw [hl]; rfl) ?_⟩
    cases hF : F [p, q] st2 with
    | stuck => rw [hF] at h2; exact h2.elim
    | exc _ _ => rw [hF] at h2; exact h2.elim
    | ok z st3 =>
      rw [hF] at h2
      cases z with
      | bl k =>
        intro ρ' H' E u ru
        exact ⟨k, rv_bl ru, k, rfl, h2 ρ' H' E _ mk_bl⟩
      | _ => exact h2.elim
  · rw [if_neg hi] at h2
    exact h2.elim
theorem g_eqO (ha : ME X W a fa) (hb : ME X W b fb) (hm : Meth X.K (He.ga X.K c0) "__eq__" f) (G : CalA Zg X.prog X.w X.K X.mg X.base k f ps F) (hr : Room j X.A) (hgd : Zg → X.A.guards = some []) (hk : k + 1 ≤ j := by decide) (hl : ps.length = 2 := by rfl) : ME X W (.Compare a [.Eq] [b] pos) (eCmpO c0 false F fa fb) := by
  obtain ⟨ta, pa, qa⟩ := ha
  obtain ⟨tb, pb, qb⟩ := hb
  obtain ⟨fd, G, bd⟩ := G
  exact ⟨_, pe_cmpR (op_eqO hm G (hr.mono hk) hgd bd) pa pb (nomark b (by decide) (by decide)), cmpO_ref hl (fun x y H Q ⟨a, dx, fs, b, dy, gs, h1, h2, h⟩ => ⟨a, dx, fs, b, dy, gs, h1, h2, by simpa using h⟩) qa qb⟩
theorem tt_ref {t : TE} {fe : EF PV} (q : RefG X.K W t fe (RV X.K)) {B : Addr → Prop} {ρ : List Addr} {env : Env} {st : Sto} {σ : L2.St} {H : Hp} {Q : Bool → Hp → Prop} (R : Rep X.K B ρ env st σ H)
    (h : ROk X.K W B ρ env σ H (tV fe env st) fun k _ _ H' => Q k H') : t σ H fun x H' => ∃ k, x = .bl k ∧ Q k H' := by
  refine q B ρ env st σ H _ R (ROk.mono (ROk.bind h) fun z ρ1 st1 H1 E1 h1 u ru => ?_)
  cases z with
  | bl k => exact ⟨k, rv_bl ru, h1 ρ1 H1 (.refl E1.rep)⟩
  | _ => exact h1.elim
theorem gt_eqO (ha : ME X W a fa) (hb : ME X W b fb) (hm : Meth X.K (He.ga X.K c0) "__eq__" f) (G : CalA Zg X.prog X.w X.K X.mg X.base k f ps F) (hr : Room j X.A) (hgd : Zg → X.A.guards = some []) (hk : k + 1 ≤ j := by decide) (hl : ps.length = 2 := by rfl) : MT X W (.Compare a [.Eq] [b] pos) (tV (eCmpO c0 false F fa fb)) := by
  obtain ⟨ta, pa, qa⟩ := ha
  obtain ⟨tb, pb, qb⟩ := hb
  obtain ⟨fd, G, bd⟩ := G
  exact ⟨_, pt_cmpR (op_eqO hm G (hr.mono hk) hgd bd) pa pb (nomark b (by decide) (by decide)), fun B ρ env st σ H Q R h => tt_ref (cmpO_ref hl (fun x y H Q ⟨a, dx, fs, b, dy, gs, h1, h2, h⟩ => ⟨a, dx, fs, b, dy, gs, h1, h2, by simpa using h⟩) qa qb) R h⟩
end
/-! ### short forms -/
section
variable {X : Cx} {W : WX} {o e tg iter : Expr} {es : List Expr} {fo fe : EF PV} {g gk : EF (List PV)} {c0 c1 m f : Str} {pos apos p np : Pos} {k j : Nat} {a pr fa : Addr} {ps : List Str} {F : Fn} {mc : Value}
theorem g_cmeth {pl : Sem Bool} (r : ClX.CRead X.K (He.ga X.K c0) mc) (c : ClX.CMet X.K (He.ga X.K c0) mc m pr a) (G : CalA Zg X.prog X.w X.K X.mg X.base k a ps F) (hr : Room j X.A) (hgd : Zg → X.A.guards = some []) (tk : Takes X W)
    (hm : X.mg c0 = some (.ref (He.ga X.K c0))) (ha : MA X W (e :: es) g) (hlen : ALen g (e :: es).length) (hk : k ≤ j := by decide) (hg : Gl X c0 := by rfl) (hn : (e :: es).length + 1 = ps.length := by rfl) (hd : (c0 == ("__debug__" : Str)) = false := by decide)
    (hst : starEach (e :: es) X.env = (false, eval e X.env) :: starEach es X.env := by rfl) (hpl : (backTo pos (starEach es X.env)).any (·.1) = false := by rfl)
    (ht : eval (.Call (.Attribute (.Name c0 np) m apos) (e :: es) [] pos) X.env = (do
      let ov ← eval (.Name c0 np) X.env
      standAt apos.atName
      let (f, first) ← holding [ov] (getMethod ov m pl)
      callWith pos f first (backTo pos (starEach (e :: es) X.env)) (backToKw pos (keywordEach [] X.env))) := by rfl) :
    ME X W (.Call (.Attribute (.Name c0 np) m apos) (e :: es) [] pos) (eCMeth c0 F g) := m_cmeth r c G (hr.mono hk) hgd tk hg hm ha hn hlen hd hst hpl ht
theorem g_makeV {x : Str} {dps : List PV} {sh : List (Nat × List Str × List Src)} {ks : List Str} {kws : List Keyword} {fx : EF PV} (n : Nat) (l : List Src) (hx : ME X W (.Name x p) fx) (c : Maker Zg X.prog X.w X.K X.mg X.base k c0 ps dps F sh) (hq : (n, ks, l) ∈ sh) (hr : Room j X.A) (hgd : Zg → X.A.guards = some []) (tk : Takes X W)
    (ha : MA X W (e :: es) g) (hkw : MK X W kws gk) (hk : k + 1 ≤ j := by decide) (hl : l.all (fun s => match s with | .pos 0 => false | _ => true) = true := by rfl) (hall : (backToKw pos (keywordEach kws X.env)).all (·.1.isSome) = true := by rfl) (hks : (backToKw pos (keywordEach kws X.env)).filterMap (·.1) = ks := by rfl)
    (he : starEach (e :: es) X.env = (false, eval e X.env) :: starEach es X.env := by rfl)
    (hpl : ((backTo pos (starEach (e :: es) X.env)).any (·.1) || (backToKw pos (keywordEach kws X.env)).any (·.1.isNone)) = false := by rfl) :
    ME X W (.Call (.Name x p) (e :: es) kws pos) (eMakeV c0 F n ks.length ps.length dps l fx g gk) := m_makeV hx c hq hl (hr.mono hk) hgd tk ha hkw hall hks he hpl
end
/-! ### the head's run, in three parts -/
end PL
/-! PMd: pairs of ints sorted. -/
namespace PL
open PySem PySem.Spec PyProof.Rows L2
section
variable {X : Cx}
end
/-! ### pairs in their order -/
def leP (p q : Int × Int) : Prop := p.1 < q.1 ∨ (p.1 = q.1 ∧ p.2 ≤ q.2)
instance (p q : Int × Int) : Decidable (leP p q) := by unfold leP; exact inferInstance
def insP (x : Int × Int) : List (Int × Int) → List (Int × Int)
  | [] => [x]
  | y :: l => if leP x y then x :: y :: l else y :: insP x l
def psort : List (Int × Int) → List (Int × Int)
  | [] => []
  | x :: l => insP x (psort l)
def prOf : PV → Option (Int × Int)
  | .tup [.int i, .int j] => some (i, j)
  | _ => none
def prsOf : List PV → Option (List (Int × Int))
  | [] => some []
  | p :: l => match prOf p, prsOf l with
    | some x, some r => some (x :: r)
    | _, _ => none
def pairPV (p : Int × Int) : PV := .tup [.int p.1, .int p.2]
section
variable {X : Cx}
end
section
variable {X : Cx} {W : WX} {e : Expr} {es : List Expr} {g : EF (List PV)} {p pos : Pos}
end
end PL
/-! PMe: the head's facts, with fewer objects looked at. -/
namespace PL
open PySem PySem.Spec L2
/-! ### sum of a tuple -/
section
open PyProof.Rows
variable {X : Cx}
end
section
variable {X : Cx} {W : WX} {e : Expr} {es : List Expr} {g : EF (List PV)} {p pos : Pos}
end
end PL
/-! PMf: data sorted; a tuple turned round; pairs of a list sorted, each once. -/
namespace PL
open PySem PySem.Spec PyProof.Rows L2
/-! ### data sorted -/
section
variable {X : Cx}
end
def encP (p : PV) : PyData := (toD p).getD .none
open Classical in
section
variable {X : Cx}
end
section
variable {X : Cx} {W : WX} {e : Expr} {es : List Expr} {g : EF (List PV)} {p pos : Pos} {j : Nat}
end
end PL
/-! PMg: a tuple turned round. -/
namespace HT
open PySem PySem.W PySem.Calls PyProof.Rows
section
variable {prog : Program} {w : World} {A : Around} {E : Value → Shared → Prop} {s : Shared}
theorem adjust_rev (n : Nat) : Builtin.Slice.sliceAdjust none none (-1) (n : Int) = ((n : Int) - 1, -1) := by
  unfold Builtin.Slice.sliceAdjust
  simp
theorem places_rev (n : Nat) : Builtin.Slice.slicePlaces ((n : Int) - 1) (-1) (-1) = n := by
  unfold Builtin.Slice.slicePlaces
  have h1 : ¬ ((-1 : Int) > 0) := by omega
  rw [if_neg h1]
  by_cases h : (n : Int) - 1 > -1
  · rw [if_pos h]
    have : (-(-1 : Int)) = 1 := rfl
    rw [this, Int.ediv_one]
    omega
  · rw [if_neg h]
    omega
theorem fm_congr {α β : Type} {f g : α → Option β} : ∀ {l : List α}, (∀ x ∈ l, f x = g x) → l.filterMap f = l.filterMap g
  | [], _ => rfl
  | x :: l, h => by
    rw [List.filterMap_cons, List.filterMap_cons, h x List.mem_cons_self, fm_congr fun y hy => h y (List.mem_cons_of_mem _ hy)]
theorem pick_rev (xs : Array Value) : ((List.range xs.size).filterMap fun (m : Nat) => xs[(((xs.size : Int) - 1) + (m : Int) * (-1)).toNat]?).toArray = xs.toList.reverse.toArray := by
  congr 1
  have e : ∀ m ∈ List.range xs.size, xs[(((xs.size : Int) - 1) + (m : Int) * (-1)).toNat]? = some (xs.toList.reverse.getD m default) := fun m hm => by
    have hm := List.mem_range.mp hm
    have e1 : (((xs.size : Int) - 1) + (m : Int) * (-1)).toNat = xs.size - 1 - m := by omega
    rw [e1]
    have hl : m < xs.toList.reverse.length := by rw [List.length_reverse, Array.length_toList]; exact hm
    rw [List.getD_eq_getElem?_getD, List.getElem?_eq_getElem hl, List.getElem_reverse]
    show xs[xs.size - 1 - m]? = some _
    rw [Array.getElem?_eq_getElem (by omega)]
    simp
  rw [fm_congr e]
  rw [show (fun m => some (xs.toList.reverse.getD m default)) = some ∘ fun m => xs.toList.reverse.getD m default from rfl, List.filterMap_eq_map]
  refine List.ext_getElem (by simp) fun i h1 h2 => ?_
  rw [List.getElem_map, List.getElem_range, List.getD_eq_getElem?_getD, List.getElem?_eq_getElem h2]
  rfl
theorem sliceApplied_rev {sl : Addr} {vs : Value} {n : Nat} {Q : Int × Int × Nat → Shared → Prop} (hs : s.heap.IsSliceOf sl .none .none vs) (ps : IsPart vs (some (-1)))
    (h : Q ((n : Int) - 1, -1, n) s) : wpAny (model prog w) A (Builtin.Slice.sliceApplied (.ref sl) (pure (n : Int))) Q E s := by
  obtain ⟨os, hos, hcs, hds⟩ := id hs
  unfold Builtin.Slice.sliceApplied Builtin.Slice.sliceFields
  refine wpAny_bind (wpAny_bind (wpAny_field hos hds (x := .none) rfl (wpAny_bind (wpAny_field hos hds (x := .none) rfl (wpAny_bind (wpAny_field hos hds (x := vs) rfl (wpAny_pure ?_)))))))
  refine wpAny_bind (slicePart_ ps ?_)
  show wpAny _ _ (if ((-1 : Int) == 0) = true then _ else _) _ _ s
  rw [if_neg (by decide)]
  refine wpAny_bind (slicePart_none (wpAny_bind (slicePart_none (wpAny_bind (wpAny_pure ?_)))))
  show wpAny _ _ (match Builtin.Slice.sliceAdjust none none (-1) (n : Int) with | (lo, hi) => pure (lo, (-1 : Int), Builtin.Slice.slicePlaces lo hi (-1))) _ _ s
  rw [adjust_rev n]
  show wpAny _ _ (pure ((n : Int) - 1, (-1 : Int), Builtin.Slice.slicePlaces ((n : Int) - 1) (-1) (-1))) _ _ s
  rw [places_rev]
  exact wpAny_pure h
theorem getItem_tuple_rev {t sl : Addr} {items : Array Value} {vs : Value} {Q : Value → Shared → Prop} (ht : IsTup s.heap t items) (hs : s.heap.IsSliceOf sl .none .none vs) (ps : IsPart vs (some (-1)))
    (h : Q (.ref s.heap.objs.size) { s with heap := s.heap.push { cls := .type "tuple", data := .seq items.toList.reverse.toArray } })
    (hsz : items.size ≤ sizeLine) : wpAny (model prog w) A (getItem (.ref t) (.ref sl)) Q E s := by
  have htake : sizeOk (.seq items.toList.reverse.toArray) := by
    show items.toList.reverse.toArray.size ≤ sizeLine
    rw [List.size_toArray, List.length_reverse, Array.length_toList]
    exact hsz
  obtain ⟨os, hos, hcs, hds⟩ := id hs
  have hTs : s.TypeIs (.ref sl) "slice" := ⟨os, hos, hcs⟩
  unfold getItem
  try with_reducible refine wpAny_holding ?_
  first | refine wpAny_bind (wpAny_pure ?_) | skip
  refine wpAny_bind (wpAny_sequenceKey ht.typeIs (by decide) ?_)
  refine wpAny_bind (wpAny_callSpecial?_slot (name := Str.ofString "__getitem__") ht.typeIs PyProof.Rows.slot_tuple_getitem
    (wpAny_call_entry PyProof.Rows.slot_tuple_getitem ht.typeIs entry_tuple_getitem ?_ (args_tuple_getitem _ _)))
  show wpAny _ _ (Builtin.Tuple.tupleItemsOf (.ref t) >>= _) _ _ s
  refine wpAny_bind (tupleItemsOf_ ht ?_)
  refine wpAny_bind (wpAny_typeOf hTs ?_)
  rw [if_pos (by decide)]
  refine wpAny_bind (sliceApplied_rev hs ps ?_)
  have hno : ¬ ((((items.size : Int) - 1 == 0) && ((-1 : Int) == 1) && (items.size == items.size)) = true) := by
    intro q
    rw [Bool.and_eq_true, Bool.and_eq_true] at q
    exact absurd q.1.2 (by decide)
  show wpAny _ _ (if (((items.size : Int) - 1 == 0) && ((-1 : Int) == 1) && (items.size == items.size)) = true then _ else _) _ _ s
  rw [if_neg hno, pick_rev]
  first
    | exact wpAny_bind (m := Builtin.Tuple.tupleExact _) (wpAny_newObj_type (wpAny_pure ⟨_, rfl, wpAny_pure h⟩) htake)
    | exact wpAny_bind (m := Builtin.Tuple.tupleExact _) (wpAny_newObj_type (wpAny_bind (wpAny_pure (wpAny_pure ⟨_, rfl, wpAny_pure h⟩))) htake)
    | exact wpAny_bind (wpAny_bind (m := Builtin.Tuple.tupleExact _) (wpAny_newObj_type (wpAny_pure (wpAny_pure ⟨_, rfl, wpAny_pure h⟩)) htake))
    | exact wpAny_bind (wpAny_bind (m := Builtin.Tuple.tupleExact _) (wpAny_newObj_type (wpAny_pure ⟨_, rfl, wpAny_pure h⟩) htake))
end
end HT
namespace L2
open PySem PySem.Spec PyProof.Rows
variable {X : Cx}
def tRevT (K : PySem.W.Frag) (te : TE) : TE := fun σ H Q => te σ H fun x H1 => ∃ a xs, x = .ref a ∧ SqT K H1 a xs ∧ ∀ p, H1 p = none → Q (.ref p) (upd H1 p (.tup xs.reverse))
theorem pe_revT {e : Expr} {te : TE} {k : Nat} {p1 p2 p3 pos : Pos} (he : PE X e te) : PE X (.Subscript e (.Slice none none (some (.UnaryOp .USub (.Constant (.int 1) k p1) p2)) p3) pos) (tRevT X.K te) := by
  refine ⟨fun pins s σ H Q I h => ?_⟩
  refine Subscript_ (thn (he.run pins s σ H _ I h) fun v s1 ⟨x, H1, I1, r1, q1⟩ => ?_)
  obtain ⟨a, xs, ex, hx, q⟩ := q1
  subst ex
  cases r1
  have hst : PO X (some (.UnaryOp .USub (.Constant (.int 1) k p1) p2)) (tPart (tUn (rU fun i => .int (-i)) (tC (.int 1)))) := po_some (pe_un un_neg pe_int)
  refine wpAny_Slice (thn (po_none.run pins s1 σ H1 (fun o H2 => o = none ∧ H2 = H1) I1 ⟨rfl, rfl⟩) fun vl s2 ⟨l, H2, I2, pl, el, e2⟩ => ?_)
  subst el e2
  refine thn (po_none.run pins s2 σ H2 (fun o H3 => o = none ∧ H3 = H2) I2 ⟨rfl, rfl⟩) fun vu s3 ⟨u, H3, I3, pu, eu, e3⟩ => ?_
  subst eu e3
  refine thn (hst.run pins s3 σ H3 (fun o H4 => o = some (-1) ∧ H4 = H3) I3 ⟨1, rfl, -1, rfl, rfl, rfl⟩) fun vs s4 ⟨o, H4, I4, ps, eo, e4⟩ => ?_
  subst eo e4
  cases pl
  cases pu
  have I5 : Inv X pins σ H4 { s4 with heap := s4.heap.push { cls := .type "slice", data := .fields #[.none, .none, vs] } } := I4.kept (t' := s4.toks) fun b ob q => Heap.get?_push_of_some _ q
  obtain ⟨its, r, ht, hz⟩ := I5.tuple hx
  have hlen := r.length
  show wpAny (model X.prog X.w) X.A (subscriptTail e (.Slice none none (some (.UnaryOp .USub (.Constant (.int 1) k p1) p2)) p3) (.ref a) (.ref s4.heap.objs.size)) (EP X pins σ Q) X.xe { s4 with heap := s4.heap.push { cls := .type "slice", data := .fields #[.none, .none, vs] } }
  refine tail_any (ops := [.ref a, .ref s4.heap.objs.size]) ht.typeIs (PyProof.Rows.slot_tuple_getitem.lookup) ?_ (by with_unfolding_all rfl)
  refine HT.getItem_tuple_rev ht (Heap.IsSliceOf.new _ .none .none vs) ps ?_ (by rw [List.size_toArray]; omega)
  refine ⟨.ref _, _, I5.laid (t' := s4.toks) (o := .tup xs.reverse) (fun b ob q => Heap.get?_push_of_some _ q) (Nat.le_refl _) ?_, rfl, q _ (I5.hok.fresh (Nat.le_refl _))⟩
  exact ⟨by rw [List.length_reverse]; exact hz, its.reverse, r.reverse, _, Heap.get?_push_size _ rfl, rfl, 0, rfl⟩
end L2
namespace PL
open PySem PySem.Spec PyProof.Rows L2
def revF : PV → Option PV
  | .tup l => some (.tup l.reverse)
  | _ => none
def eRev (f : EF PV) : EF PV := fun e st => (f e st).bind fun v st => .of (revF v) st
theorem RVs.rev {K : PySem.W.Frag} {N : Addr → Prop} {ρ : List Addr} {H : Hp} : ∀ {l : List PV} {xs : List V}, RVs K N ρ H l xs → RVs K N ρ H l.reverse xs.reverse
  | [], xs, r => by
    have : xs = [] := List.length_eq_zero_iff.mp r.len
    subst this
    exact .nil
  | p :: l, xs, r => by
    obtain ⟨w, ws, rfl, d1, d2⟩ := r.uncons
    rw [List.reverse_cons, List.reverse_cons]
    exact RVs.append (RVs.rev d2) (.cons d1 .nil)
section
variable {X : Cx} {W : WX} {e : Expr} {fe : EF PV} {k : Nat} {p1 p2 p3 pos : Pos}
theorem m_rev (h : ME X W e fe) : ME X W (.Subscript e (.Slice none none (some (.UnaryOp .USub (.Constant (.int 1) k p1) p2)) p3) pos) (eRev fe) := by
  obtain ⟨t, pt, q⟩ := h
  refine ⟨_, pe_revT pt, fun B ρ env st σ H Q R h => ?_⟩
  refine q B ρ env st σ H _ R (ROk.mono (ROk.bind h) fun pv ρ1 st1 H1 E1 h1 u ru => ?_)
  obtain ⟨z, ez, hz⟩ := ROk.of E1.rep h1
  cases pv with
  | tup l =>
    cases ez
    obtain ⟨a, xs, rfl, c1, c2, c3⟩ := rv_tup ru
    refine ⟨a, xs, rfl, c1.sq, fun p np => hz _ (.new np) _ ?_⟩
    exact mk_tup (fun z => E1.rep.tr z np) upd_same (by rw [List.length_reverse]; exact c2) (RVs.rev (RVs.ext (.new np) c3))
  | _ => cases ez
end
end PL
/-! PMh: sorted(set(l)), l a list of pairs. -/
namespace PL
open PySem PySem.Spec PyProof.Rows L2
def nubP : List (Int × Int) → List (Int × Int)
  | [] => []
  | x :: l => if x ∈ nubP l then nubP l else x :: nubP l
def smallP (ps : List (Int × Int)) : Bool := ps.all fun p => decide ((0 ≤ p.1 ∧ p.1 < 64) ∧ 0 ≤ p.2 ∧ p.2 < 64)
def sortSetF : PV → Option (List PV)
  | .lst l => match prsOf l with
    | some ps => if ps.length < 64 ∧ smallP ps = true then some ((psort (nubP ps)).map pairPV) else none
    | none => none
  | _ => none
def lSortSet (f : EF PV) : EF (List PV) := fun e st => (f e st).bind fun v st => .of (sortSetF v) st
def two (p : Int × Int) : List Int := [p.1, p.2]
theorem SqT.grow {K : PySem.W.Frag} {H H' : Hp} {a : Addr} {xs : List V} (E : Ext H H') (h : SqT K H a xs) : SqT K H' a xs := by
  rcases h with h | h
  · rcases h with h | ⟨o, h⟩
    · exact .inl (.inl (E a _ h))
    · exact .inl (.inr ⟨o, E a _ h⟩)
  · exact .inr h
section
variable {X : Cx} {W : WX} {e : Expr} {fe : EF PV} {p p2 pos pos2 : Pos} {j : Nat}
end
end PL
/-! RcS: how the later functions are reckoned out. -/
namespace PL
open PySem PySem.Spec L2
section
variable {e : Env} {st : Sto}
@[simp] theorem eFld_e (c0 f : Str) (a : EF PV) : eFld c0 f a e st = (a e st).bind fun p st => .of (fldF c0 f st p) st := rfl
@[simp] theorem eProp_e (c0 : Str) (F : Fn) (a : EF PV) : eProp c0 F a e st = (a e st).bind fun p st => if isIns c0 st p = true then (F [p] st).noE else .stuck := rfl
@[simp] theorem eMeth_e (c0 m : Str) (F : Fn) (o : EF PV) (a : EF (List PV)) : eMeth c0 m F o a e st = (o e st).bind fun p st => if isInsNo c0 m st p = true then (a e st).bind fun xs st => F (p :: xs) st else .stuck := rfl
@[simp] theorem eOwn1_e (c0 : Str) (z : PV → Bool) (F : Fn) (a : EF PV) : eOwn1 c0 z F a e st = (a e st).bind fun p st => if isIns c0 st p = true then ((F [p] st).noE).bind fun r st => if z r = true then .ok r st else .stuck else .stuck := rfl
@[simp] theorem eCon_e (c0 f : Str) (v : PV) (a : EF PV) : eCon c0 f v a e st = (a e st).bind fun p st => if isInsNo c0 f st p = true then .ok v st else .stuck := rfl
@[simp] theorem eIsO_e (cs : List (Str × Bool)) (a : EF PV) : eIsO cs a e st = (a e st).bind fun p st => .of ((isOwn cs st p).map .bl) st := rfl
@[simp] theorem eMake_e (c0 : Str) (F : Fn) (n m len : Nat) (dps : List PV) (l : List Src) (a gk : EF (List PV)) : eMake c0 F n m len dps l a gk e st = (a e st).bind fun xs st => (gk e st).bind fun zs st =>
  if (xs.length = n ∧ zs.length = m) ∧ (plan l (.non :: xs) dps zs).length + 1 = len then makF c0 F (plan l (.non :: xs) dps zs) st else .stuck := rfl
@[simp] theorem eTx_e (op : Str → PV → Option PV) (a b : EF PV) : eTx op a b e st = (a e st).bind fun p st => match p with
  | .str x => (b e st).bind fun q st => .of (op x q) st
  | _ => .stuck := rfl
@[simp] theorem eFmt_e (a : EF PV) : eFmt a e st = (a e st).bind fun p st => .of ((strOfN p).map .str) st := rfl
@[simp] theorem jNil_e (acc : Str) : jNil acc e st = .ok acc st := rfl
@[simp] theorem jCons_e (a : EF PV) (r : Str → EF Str) (acc : Str) : jCons a r acc e st = (a e st).bind fun p st => match p with
  | .str y => if (acc ++ y).length ≤ LINE then r (acc ++ y) e st else .stuck
  | _ => .stuck := rfl
@[simp] theorem eJStr_e (g : Str → EF Str) : eJStr g e st = (g Str.empty e st).bind fun y st => .ok (.str y) st := rfl
@[simp] theorem sAsgX_e (g : GF) (a : EF PV) : sAsgX g a e st = (a e st).toS e fun v st => g v e st := rfl
@[simp] theorem gxTup_e (gs : List GF) (l : List PV) : gxTup gs (.tup l) e st = if l.length = gs.length then gxSeq gs l e st else .stuck := rfl
@[simp] theorem gxSeq_nil : gxSeq [] [] e st = .nx e st := rfl
@[simp] theorem gxSeq_cons (g : GF) (gs : List GF) (p : PV) (ps : List PV) : gxSeq (g :: gs) (p :: ps) e st = (g p e st).thn fun e st => gxSeq gs ps e st := rfl
@[simp] theorem gxFld_e (c0 f : Str) (o : EF PV) (p : PV) : gxFld c0 f o p e st = (o e st).toS e fun ov st => match fldSet c0 f st ov p with
  | some st' => .nx e st'
  | none => .stuck := rfl
@[simp] theorem gxName_e (i : Nat) (p : PV) : gxName i p e st = (match bName i p e with
  | some e1 => .nx e1 st
  | none => .stuck) := rfl
@[simp] theorem eNewG_e (l : EF (List PV)) : eNewG l e st = (l e st).bind fun l st => .ok (.gl st.length) (st ++ [.lst l]) := rfl
@[simp] theorem eLenG_e (a : EF PV) : eLenG a e st = (a e st).bind fun p st => match lstAt st p with
  | some (_, l) => .ok (.int l.length) st
  | none => .stuck := rfl
@[simp] theorem ePopG_e (a k : EF PV) : ePopG a k e st = (a e st).bind fun p st => match lstAt st p with
  | some _ => (k e st).bind fun q st => match lstAt st p, q with
    | some (n, l), .int i => match popAt l i with
      | some (y, m) => .ok y (st.set n (.lst m))
      | none => .stuck
    | _, _ => .stuck
  | none => .stuck := rfl
@[simp] theorem eAppG_e (a v : EF PV) : eAppG a v e st = (a e st).bind fun p st => match lstAt st p with
  | some _ => (v e st).bind fun q st => match lstAt st p with
    | some (n, l) => if l.length < LINE then .ok .non (st.set n (.lst (l ++ [q]))) else .stuck
    | none => .stuck
  | none => .stuck := rfl
theorem lstAt_gl {n : Nat} {l : List PV} (h : st[n]? = some (.lst l)) : lstAt st (.gl n) = some (n, l) := by
  unfold lstAt
  dsimp only
  rw [h]
@[simp] theorem iRng2_e (g : EF (List PV)) : iRng2 g e st = (g e st).bind fun vs st => match int2 vs with
  | some (i, j) => if -LINE ≤ i ∧ i ≤ LINE ∧ -LINE ≤ j ∧ j ≤ LINE ∧ j - i ≤ LINE then .ok (rangeF i (j - i).toNat) st else .stuck
  | none => .stuck := rfl
end
end PL
/-! Rc: receipts as plain data: what is right, texts, values. -/
namespace Rc
open PySem PySem.Spec L2 PL
/-! ### texts -/
theorem strOk_append {a b : Str} (h1 : PyData.strOk a = true) (h2 : PyData.strOk b = true) : PyData.strOk (a ++ b) = true := by
  unfold PyData.strOk at h1 h2 ⊢
  rw [Str.cps_append, Array.all_append, h1, h2]
  rfl
theorem strOk_ofString (s : String) : PyData.strOk (Str.ofString s) = true := by
  unfold PyData.strOk
  rw [Str.ofString_eq_toList, List.all_toArray, List.all_map, List.all_eq_true]
  intro c _
  refine decide_eq_true ?_
  have h := c.valid
  have : c.toNat < 0x110000 := by
    rcases h with h | h
    · show c.val.toNat < _
      omega
    · show c.val.toNat < _
      omega
  exact this
theorem strOk_empty : PyData.strOk Str.empty = true := by simp [PyData.strOk, Str.empty]
theorem strOk_join {a : Str} (ha : PyData.strOk a = true) : ∀ {ys : List Str}, (∀ y ∈ ys, PyData.strOk y = true) → PyData.strOk (Str.join a ys) = true
  | [], _ => strOk_empty
  | [y], h => h y (List.mem_singleton.mpr rfl)
  | y :: z :: r, h => by
    show PyData.strOk (y ++ a ++ Str.join a (z :: r)) = true
    exact strOk_append (strOk_append (h y List.mem_cons_self) ha) (strOk_join ha fun w hw => h w (List.mem_cons_of_mem _ hw))
theorem len_join {a : Str} {B : Nat} : ∀ {ys : List Str}, (∀ y ∈ ys, y.length ≤ B) → (Str.join a ys).length ≤ ys.length * (B + a.length)
  | [], _ => Nat.zero_le _
  | [y], h => by
    have := h y (List.mem_singleton.mpr rfl)
    show y.length ≤ 1 * _
    omega
  | y :: z :: r, h => by
    have h1 := h y List.mem_cons_self
    have h2 := len_join (a := a) (ys := z :: r) fun w hw => h w (List.mem_cons_of_mem _ hw)
    show (y ++ a ++ Str.join a (z :: r)).length ≤ (y :: z :: r).length * (B + a.length)
    rw [Str.length_append, Str.length_append, List.length_cons, Nat.add_mul, Nat.one_mul]
    omega
theorem sum_len {B : Nat} : ∀ {ys : List Str}, (∀ y ∈ ys, y.length ≤ B) → (ys.map (·.length)).sum ≤ ys.length * B
  | [], _ => Nat.zero_le _
  | y :: r, h => by
    have h1 := h y List.mem_cons_self
    have h2 := sum_len (ys := r) fun w hw => h w (List.mem_cons_of_mem _ hw)
    rw [List.map_cons, List.sum_cons, List.length_cons, Nat.add_mul, Nat.one_mul]
    omega
theorem strsOf_map : ∀ ys : List Str, strsOf (ys.map PV.str) = some ys
  | [] => rfl
  | y :: r => by
    show (strsOf (r.map PV.str)).map _ = _
    rw [strsOf_map r]
    rfl
/-- joined: its text -/
theorem joinF_ok {a : Str} {ys : List Str} {B n : Nat} (h1 : ∀ y ∈ ys, y.length ≤ B) (h2 : ys.length ≤ n) (h3 : n * (B + a.length) ≤ 16777216) : joinF a (.lst (ys.map PV.str)) = some (.str (Str.join a ys)) := by
  unfold joinF
  dsimp only
  rw [strsOf_map]
  have e1 := sum_len h1
  have e2 : ys.length * B + ys.length * a.length ≤ n * (B + a.length) := by
    rw [← Nat.mul_add]
    exact Nat.mul_le_mul_right _ h2
  dsimp only
  rw [if_pos (by omega), TL.join_eq]
theorem len_join_le {a : Str} {ys : List Str} {B n : Nat} (h1 : ∀ y ∈ ys, y.length ≤ B) (h2 : ys.length ≤ n) : (Str.join a ys).length ≤ n * (B + a.length) :=
  Nat.le_trans (len_join h1) (Nat.mul_le_mul_right _ h2)
/-- a text that may stand in a told value -/
def TxOk (B : Nat) (y : Str) : Prop := PyData.strOk y = true ∧ y.length ≤ B
theorem TxOk.append {A B : Nat} {x y : Str} (h1 : TxOk A x) (h2 : TxOk B y) : TxOk (A + B) (x ++ y) := ⟨strOk_append h1.1 h2.1, by rw [Str.length_append]; exact Nat.add_le_add h1.2 h2.2⟩
theorem TxOk.mono {A B : Nat} {x : Str} (h : TxOk A x) (k : A ≤ B) : TxOk B x := ⟨h.1, Nat.le_trans h.2 k⟩
theorem TxOk.join {A B n : Nat} {a : Str} {ys : List Str} (ha : TxOk A a) (h1 : ∀ y ∈ ys, TxOk B y) (h2 : ys.length ≤ n) : TxOk (n * (B + A)) (Str.join a ys) :=
  ⟨strOk_join ha.1 fun y hy => (h1 y hy).1, Nat.le_trans (len_join_le (fun y hy => (h1 y hy).2) h2) (Nat.mul_le_mul_left _ (Nat.add_le_add_left ha.2 _))⟩
/-- a number's text -/
def numT (i : Int) : Str := Str.ofString (toString i)
theorem num_ok {i : Int} (h1 : -999999999999 ≤ i) (h2 : i ≤ 999999999999) : TxOk 13 (numT i) := ⟨strOk_ofString _, PyData.shown_int_le2 h1 h2⟩
theorem strF_num {i : Int} (h1 : -999999999999 ≤ i) (h2 : i ≤ 999999999999) : strF [.int i] = some (.str (numT i)) := by
  unfold strF
  dsimp only
  rw [if_pos]
  · rfl
  · by_cases h0 : i = 0
    · subst h0
      decide
    · have := log_le ⟨h1, h2⟩ h0
      omega
theorem strOfN_num {i : Int} (h1 : -999999999999 ≤ i) (h2 : i ≤ 999999999999) : strOfN (.int i) = some (numT i) := by
  unfold strOfN
  dsimp only
  rw [if_pos]
  · rfl
  · by_cases h0 : i = 0
    · subst h0
      decide
    · have := log_le ⟨h1, h2⟩ h0
      omega
theorem addF_str {x y : Str} (h : x.length + y.length ≤ 16777216) : addF (.str x) (.str y) = some (.str (x ++ y)) := by
  unfold addF
  dsimp only
  rw [if_pos (show x.length + y.length ≤ LINE from h)]
theorem addF_tx {A B : Nat} {x y : Str} (h1 : TxOk A x) (h2 : TxOk B y) (h : A + B ≤ 16777216) : addF (.str x) (.str y) = some (.str (x ++ y)) := addF_str (Nat.le_trans (Nat.add_le_add h1.2 h2.2) h)
/-! ### receipts -/
abbrev Deal := List (Int × Int)
abbrev Grp := Int × List Int
def numsT (l : List Int) : Str := Str.join " " (l.map numT)
def offT (p : Int × Int) : Str := ((" " : Str) ++ numT p.1) ++ (":" : Str) ++ numT p.2
def dealT (d : Deal) : Str := ("deal" : Str) ++ Str.join "" (d.map offT)
def grpT (g : Grp) : Str := (("group " : Str) ++ numT g.1) ++ (" of " : Str) ++ numsT g.2
def linesT (c : List Int) (ds : List Deal) (gs : List Grp) : List Str := (("prices " : Str) ++ numsT c) :: (ds.map dealT ++ gs.map grpT)
def textT (c : List Int) (ds : List Deal) (gs : List Grp) : Str := Str.join "\n" (linesT c ds gs) ++ ("\n" : Str)
theorem join_nl (s : Str) : ∀ {l : List Str}, l ≠ [] → Str.join s l ++ s = Str.join "" (l.map (· ++ s))
  | [], h => absurd rfl h
  | [x], _ => rfl
  | x :: y :: r, _ => by
    have ih := join_nl s (l := y :: r) (by simp)
    have e0 : ("" : Str) = Str.empty := by decide
    show (x ++ s ++ Str.join s (y :: r)) ++ s = (x ++ s) ++ ("" : Str) ++ Str.join "" ((y :: r).map (· ++ s))
    rw [Str.append_assoc (x ++ s), ih, e0, Str.append_empty]
/-- prices -/
def CostsOk (c : List Int) : Prop := 1 ≤ c.length ∧ c.length ≤ 5 ∧ ∀ x ∈ c, 1 ≤ x ∧ x ≤ 9999
def Rises (l : List Int) : Prop := l.Pairwise (· < ·)
def DealOk (c : List Int) (d : Deal) : Prop := (∀ p ∈ d, 0 ≤ p.1 ∧ p.1 < c.length ∧ 1 ≤ p.2 ∧ ∃ x, c[p.1.toNat]? = some x ∧ p.2 ≤ x) ∧ Rises (d.map (·.1))
def DealsOk (c : List Int) (ds : List Deal) : Prop := ds.length ≤ 5 ∧ ∀ d ∈ ds, DealOk c d
def GrpOk (m : Nat) (g : Grp) : Prop := 0 ≤ g.1 ∧ g.1 ≤ 5 ∧ g.2 ≠ [] ∧ Rises g.2 ∧ ∀ x ∈ g.2, 0 ≤ x ∧ x < m
def Meet (a b : List Int) : Prop := a ≠ b ∧ ((∀ x ∈ a, x ∉ b) ∨ (∀ x ∈ a, x ∈ b) ∨ (∀ x ∈ b, x ∈ a))
def GrpsOk (m : Nat) (gs : List Grp) : Prop := gs.length ≤ 5 ∧ (∀ g ∈ gs, GrpOk m g) ∧ gs.Pairwise fun a b => Meet a.2 b.2
structure RcOk (c : List Int) (ds : List Deal) (gs : List Grp) : Prop where
  cok : CostsOk c
  dok : DealsOk c ds
  gok : GrpsOk ds.length gs
abbrev pairV (p : Int × Int) : PV := .tup [.int p.1, .int p.2]
abbrev intsV (l : List Int) : PV := .tup (l.map PV.int)
abbrev dealV (d : Deal) : PV := .tup (d.map pairV)
abbrev dealsV (ds : List Deal) : PV := .tup (ds.map dealV)
abbrev grpV (g : Grp) : PV := .tup [.int g.1, intsV g.2]
abbrev grpsV (gs : List Grp) : PV := .tup (gs.map grpV)
abbrev rcV (c : List Int) (ds : List Deal) (gs : List Grp) : PV := .ins "Receipt" ["costs", "offers", "bounds"] [intsV c, dealsV ds, grpsV gs]
/-- rising numbers below m: at most m -/
theorem rises_le : ∀ {l : List Int} {lo m : Int}, Rises l → (∀ x ∈ l, lo ≤ x ∧ x < m) → (l.length : Int) ≤ max 0 (m - lo)
  | [], _, _, _, _ => by simp; omega
  | x :: r, lo, m, h, hb => by
    have hx := hb x List.mem_cons_self
    have h2 := List.pairwise_cons.mp h
    have ih := rises_le (l := r) (lo := x + 1) (m := m) h2.2 fun y hy => ⟨by have := h2.1 y hy; omega, (hb y (List.mem_cons_of_mem _ hy)).2⟩
    rw [List.length_cons]
    omega
theorem DealOk.len {c : List Int} {d : Deal} (hc : CostsOk c) (h : DealOk c d) : d.length ≤ 5 := by
  have := rises_le (l := d.map (·.1)) (lo := 0) (m := 5) h.2 fun x hx => by
    obtain ⟨p, hp, rfl⟩ := List.mem_map.mp hx
    have := h.1 p hp
    have := hc.2.1
    omega
  rw [List.length_map] at this
  omega
theorem GrpOk.len {m : Nat} {g : Grp} (hm : m ≤ 5) (h : GrpOk m g) : g.2.length ≤ 5 := by
  have := rises_le (l := g.2) (lo := 0) (m := 5) h.2.2.2.1 fun x hx => by
    have := h.2.2.2.2 x hx
    omega
  omega
theorem DealOk.price {c : List Int} {d : Deal} (hc : CostsOk c) (h : DealOk c d) {p : Int × Int} (hp : p ∈ d) : 0 ≤ p.1 ∧ p.1 ≤ 4 ∧ 1 ≤ p.2 ∧ p.2 ≤ 9999 := by
  obtain ⟨h1, h2, h3, x, h4, h5⟩ := h.1 p hp
  have := hc.2.1
  have := (hc.2.2 x (List.mem_of_getElem? h4)).2
  omega
theorem numsT_ok {l : List Int} (hl : l.length ≤ 5) (h : ∀ x ∈ l, 0 ≤ x ∧ x ≤ 9999) : TxOk 70 (numsT l) :=
  TxOk.join (A := 1) (B := 13) (n := 5) ⟨strOk_ofString _, by decide⟩ (fun y hy => by
    obtain ⟨x, hx, rfl⟩ := List.mem_map.mp hy
    have := h x hx
    exact num_ok (by omega) (by omega)) (by rw [List.length_map]; exact hl)
theorem offT_ok {p : Int × Int} (h : 0 ≤ p.1 ∧ p.1 ≤ 4 ∧ 1 ≤ p.2 ∧ p.2 ≤ 9999) : TxOk 28 (offT p) :=
  (((TxOk.append (A := 1) ⟨strOk_ofString _, by decide⟩ (num_ok (i := p.1) (by omega) (by omega))).append (B := 1) ⟨strOk_ofString _, by decide⟩).append (num_ok (i := p.2) (by omega) (by omega)))
theorem dealT_ok {c : List Int} {d : Deal} (hc : CostsOk c) (h : DealOk c d) : TxOk 144 (dealT d) :=
  TxOk.append (A := 4) ⟨strOk_ofString _, by decide⟩ (TxOk.join (A := 0) (B := 28) (n := 5) ⟨strOk_ofString _, by decide⟩ (fun y hy => by
    obtain ⟨p, hp, rfl⟩ := List.mem_map.mp hy
    exact offT_ok (h.price hc hp)) (by rw [List.length_map]; exact h.len hc))
theorem grpT_ok {m : Nat} {g : Grp} (hm : m ≤ 5) (h : GrpOk m g) : TxOk 93 (grpT g) :=
  (((TxOk.append (A := 6) ⟨strOk_ofString _, by decide⟩ (num_ok (i := g.1) (by have := h.1; omega) (by have := h.2.1; omega))).append (B := 4) ⟨strOk_ofString _, by decide⟩).append (numsT_ok (h.len hm) fun x hx => by have := h.2.2.2.2 x hx; omega))
theorem lines_ok {c : List Int} {ds : List Deal} {gs : List Grp} (h : RcOk c ds gs) : (∀ y ∈ linesT c ds gs, TxOk 144 y) ∧ (linesT c ds gs).length ≤ 11 := by
  refine ⟨fun y hy => ?_, ?_⟩
  · rcases List.mem_cons.mp hy with rfl | hy
    · exact (TxOk.append (A := 7) ⟨strOk_ofString _, by decide⟩ (numsT_ok h.cok.2.1 fun x hx => by have := h.cok.2.2 x hx; omega)).mono (by decide)
    · rcases List.mem_append.mp hy with hy | hy
      · obtain ⟨d, hd, rfl⟩ := List.mem_map.mp hy
        exact dealT_ok h.cok (h.dok.2 d hd)
      · obtain ⟨g, hg, rfl⟩ := List.mem_map.mp hy
        exact (grpT_ok h.dok.1 (h.gok.2.1 g hg)).mono (by decide)
  · have h1 := h.dok.1
    have h2 := h.gok.1
    unfold linesT
    rw [List.length_cons, List.length_append, List.length_map, List.length_map]
    omega
theorem text_ok {c : List Int} {ds : List Deal} {gs : List Grp} (h : RcOk c ds gs) : TxOk 1596 (textT c ds gs) :=
  (TxOk.append (TxOk.join (A := 1) (B := 144) (n := 11) ⟨strOk_ofString _, by decide⟩ (lines_ok h).1 (lines_ok h).2) (B := 1) ⟨strOk_ofString _, by decide⟩).mono (by decide)
/-! ### values -/
theorem blsOf_bl : ∀ l : List Bool, blsOf (l.map PV.bl) = some l
  | [] => rfl
  | b :: l => by
    show (blsOf (l.map PV.bl)).map _ = _
    rw [blsOf_bl l]
    rfl
theorem allF_map {α : Type} (f : α → Bool) (l : List α) : allF [.lst (l.map fun x => PV.bl (f x))] = some (.bl (l.all f)) := by
  have e : (l.map fun x => PV.bl (f x)) = (l.map f).map PV.bl := by rw [List.map_map]; rfl
  show (blsOf (l.map fun x => PV.bl (f x))).map _ = _
  rw [e, blsOf_bl]
  simp [List.all_map]
theorem anyF_map {α : Type} (f : α → Bool) (l : List α) : anyF [.lst (l.map fun x => PV.bl (f x))] = some (.bl (l.any f)) := by
  have e : (l.map fun x => PV.bl (f x)) = (l.map f).map PV.bl := by rw [List.map_map]; rfl
  show (blsOf (l.map fun x => PV.bl (f x))).map _ = _
  rw [e, blsOf_bl]
  simp [List.any_map]
theorem allF_true {α : Type} (l : List α) : allF [.lst (l.map fun _ => PV.bl true)] = some (.bl true) := by
  rw [allF_map (fun _ => true) l]
  simp
theorem neF_int (i j : Int) : neF (.int i) (.int j) = some (.bl (!decide (i = j))) := by
  show (if SeqAt.shaped (.int i) = true ∧ SeqAt.shaped (.int j) = true then some (PV.bl (!PyData.eqv (.int i) (.int j))) else none) = _
  rw [if_pos ⟨rfl, rfl⟩, eqv_int]
theorem sumF_ints (l : List Int) : sumF [.lst (l.map PV.int)] = some (.int l.sum) := by
  show (intsOf (l.map PV.int)).map _ = _
  have : ∀ l : List Int, intsOf (l.map PV.int) = some l := fun l => by
    induction l with
    | nil => rfl
    | cons i l ih =>
      show (intsOf (l.map PV.int)).map _ = _
      rw [ih]
      rfl
  rw [this]
  rfl
theorem toDs_ints : ∀ l : List Int, toDs (l.map PV.int) = some (l.map PyData.int)
  | [] => by unfold List.map toDs; rfl
  | i :: l => by
    rw [List.map_cons]
    unfold toDs
    rw [toDs_ints l]
    rfl
theorem toD_intsV (l : List Int) : toD (intsV l) = some (.tuple (l.map PyData.int)) := by
  unfold toD
  rw [toDs_ints]
  rfl
theorem eqvAll_ints : ∀ a b : List Int, PyData.eqvAll (a.map PyData.int) (b.map PyData.int) = decide (a = b)
  | [], [] => rfl
  | [], _ :: _ => by simp [PyData.eqvAll]
  | _ :: _, [] => by simp [PyData.eqvAll]
  | x :: a, y :: b => by
    show (PyData.eqv (.int x) (.int y) && PyData.eqvAll (a.map PyData.int) (b.map PyData.int)) = _
    rw [eqvAll_ints a b, eqv_int]
    simp [Bool.and_eq_true, List.cons.injEq]
theorem canLay_ints : ∀ l : List Int, PyData.canLayAll0 (l.map PyData.int) = true
  | [] => rfl
  | x :: l => by
    show (PyData.canLay0 (.int x) && PyData.canLayAll0 (l.map PyData.int)) = true
    rw [canLay_ints l]
    rfl
theorem depth_ints : ∀ l : List Int, PyData.depthAll (l.map PyData.int) = 0
  | [] => rfl
  | x :: l => by
    show max 0 (PyData.depthAll (l.map PyData.int)) = 0
    rw [depth_ints l]
    rfl
theorem shaped_ints (l : List Int) : SeqAt.shaped (.tuple (l.map PyData.int)) = true := by
  unfold SeqAt.shaped
  simp only [Bool.and_eq_true, decide_eq_true_eq]
  refine ⟨canLay_ints l, ?_⟩
  show PyData.depthAll (l.map PyData.int) + 1 ≤ 64
  rw [depth_ints]
  decide
theorem eqF_ints (a b : List Int) : eqF (intsV a) (intsV b) = some (.bl (decide (a = b))) := by
  show eqG (intsV a) (intsV b) = _
  unfold eqG
  rw [toD_intsV, toD_intsV]
  dsimp only
  rw [if_pos ⟨shaped_ints a, shaped_ints b⟩]
  show some (PV.bl (PyData.eqvAll _ _)) = _
  rw [eqvAll_ints]
theorem neF_ints (a b : List Int) : neF (intsV a) (intsV b) = some (.bl (!decide (a = b))) := by
  show neG (intsV a) (intsV b) = _
  unfold neG
  rw [toD_intsV, toD_intsV]
  dsimp only
  rw [if_pos ⟨shaped_ints a, shaped_ints b⟩]
  show some (PV.bl (!PyData.eqvAll _ _)) = _
  rw [eqvAll_ints]
theorem sm_list {α : Type} {f : α → PV} : ∀ {l : List α}, (∀ x ∈ l, smB (f x) = true) → smBs (l.map f) = true
  | [], _ => by unfold List.map smBs; rfl
  | x :: l, h => by
    rw [List.map_cons]
    unfold smBs
    rw [h x List.mem_cons_self, sm_list fun y hy => h y (List.mem_cons_of_mem _ hy)]
    rfl
theorem dp_list {α : Type} {f : α → PV} {n : Nat} : ∀ {l : List α}, (∀ x ∈ l, dpN (f x) ≤ n) → dpNs (l.map f) ≤ n
  | [], _ => by unfold List.map dpNs; exact Nat.zero_le _
  | x :: l, h => by
    rw [List.map_cons]
    unfold dpNs
    have h1 := h x List.mem_cons_self
    have h2 := dp_list (f := f) (n := n) (l := l) fun y hy => h y (List.mem_cons_of_mem _ hy)
    omega
theorem wt_list {α : Type} {f : α → PV} {n : Nat} : ∀ {l : List α}, (∀ x ∈ l, wtN (f x) ≤ n) → wtNs (l.map f) ≤ l.length * (n + 1)
  | [], _ => by unfold List.map wtNs; exact Nat.zero_le _
  | x :: l, h => by
    rw [List.map_cons]
    unfold wtNs
    have h1 := h x List.mem_cons_self
    have h2 := wt_list (f := f) (n := n) (l := l) fun y hy => h y (List.mem_cons_of_mem _ hy)
    rw [List.length_cons, Nat.add_mul, Nat.one_mul]
    omega
/-- small, not deep, not heavy -/
def Sm (d w : Nat) (p : PV) : Prop := smB p = true ∧ dpN p ≤ d ∧ wtN p ≤ w
theorem Sm.mono {d w d' w' : Nat} {p : PV} (h : Sm d w p) (h1 : d ≤ d') (h2 : w ≤ w') : Sm d' w' p := ⟨h.1, Nat.le_trans h.2.1 h1, Nat.le_trans h.2.2 h2⟩
theorem sm_int {i : Int} (h1 : -999999999999 ≤ i) (h2 : i ≤ 999999999999) : Sm 0 40 (.int i) := ⟨by unfold smB; exact decide_eq_true ⟨h1, h2⟩, by unfold dpN; exact Nat.le_refl _, by unfold wtN; exact Nat.le_refl _⟩
theorem sm_str {B : Nat} {y : Str} (h : TxOk B y) : Sm 0 B (.str y) := ⟨by unfold smB; exact h.1, by unfold dpN; exact Nat.le_refl _, by unfold wtN; exact h.2⟩
theorem sm_tup {α : Type} {f : α → PV} {l : List α} {d w n : Nat} (hl : l.length ≤ n) (h : ∀ x ∈ l, Sm d w (f x)) : Sm (d + 1) (n * (w + 1)) (.tup (l.map f)) :=
  ⟨by unfold smB; exact sm_list fun x hx => (h x hx).1, by unfold dpN; exact Nat.succ_le_succ (dp_list fun x hx => (h x hx).2.1), by unfold wtN; exact Nat.le_trans (wt_list fun x hx => (h x hx).2.2) (Nat.mul_le_mul_right _ hl)⟩
theorem sm_lst {α : Type} {f : α → PV} {l : List α} {d w n : Nat} (hl : l.length ≤ n) (h : ∀ x ∈ l, Sm d w (f x)) : Sm (d + 1) (n * (w + 1)) (.lst (l.map f)) :=
  ⟨by unfold smB; exact sm_list fun x hx => (h x hx).1, by unfold dpN; exact Nat.succ_le_succ (dp_list fun x hx => (h x hx).2.1), by unfold wtN; exact Nat.le_trans (wt_list fun x hx => (h x hx).2.2) (Nat.mul_le_mul_right _ hl)⟩
theorem sm_tupI {l : List PV} {d w n : Nat} (hl : l.length ≤ n) (h : ∀ x ∈ l, Sm d w x) : Sm (d + 1) (n * (w + 1)) (.tup l) := by
  have := sm_tup (f := fun p : PV => p) hl h
  rwa [List.map_id'] at this
theorem Sm.same {d w : Nat} {p : PV} (h : Sm d w p) (h1 : d ≤ 30) (h2 : w ≤ 1048576) : ∃ x, reprF [p] = some (.str x) := repr_sm h.1 (Nat.le_trans h.2.1 h1) (Nat.le_trans h.2.2 h2)
theorem sm_intsV {l : List Int} (hl : l.length ≤ 5) (h : ∀ x ∈ l, 0 ≤ x ∧ x ≤ 9999) : Sm 1 205 (intsV l) := sm_tup hl fun x hx => sm_int (by have := h x hx; omega) (by have := h x hx; omega)
theorem sm_deal {c : List Int} {d : Deal} (hc : CostsOk c) (h : DealOk c d) : Sm 2 415 (dealV d) := sm_tup (w := 82) (h.len hc) fun p hp => by
  have := h.price hc hp
  exact sm_tupI (d := 0) (w := 40) (n := 2) (Nat.le_refl _) fun x hx => by
    rcases List.mem_cons.mp hx with rfl | hx
    · exact sm_int (by omega) (by omega)
    · rw [List.mem_singleton.mp hx]
      exact sm_int (by omega) (by omega)
theorem sm_deals {c : List Int} {ds : List Deal} (hc : CostsOk c) (h : DealsOk c ds) : Sm 3 2080 (dealsV ds) := sm_tup h.1 fun d hd => sm_deal hc (h.2 d hd)
theorem sm_grp {m : Nat} {g : Grp} (hm : m ≤ 5) (h : GrpOk m g) : Sm 2 412 (grpV g) := sm_tupI (d := 1) (w := 205) (n := 2) (Nat.le_refl _) fun x hx => by
  rcases List.mem_cons.mp hx with rfl | hx
  · exact (sm_int (by have := h.1; omega) (by have := h.2.1; omega)).mono (by decide) (by decide)
  · rw [List.mem_singleton.mp hx]
    exact sm_intsV (h.len hm) fun x hx => by have := h.2.2.2.2 x hx; omega
theorem sm_grps {m : Nat} {gs : List Grp} (hm : m ≤ 5) (h : GrpsOk m gs) : Sm 3 2065 (grpsV gs) := sm_tup h.1 fun g hg => sm_grp hm (h.2.1 g hg)
/-! ### loops, comprehensions -/
theorem lc_yes {b : BF} {t : EF PV} {e : PL.Env} {st : Sto} {α : Type} (v : α → PV) (g : α → PV) (l : List α) (h : ∀ x ∈ l, ∃ e1, b (v x) e = some e1 ∧ t e1 st = .ok (g x) st) : lcLoop b tYesF t e (l.map v) st = .ok (l.map g) st := by
  have := lc_map (b := b) (c := tYesF) (t := t) (e := e) (st := st) v (fun _ => true) g l fun x hx => by
    obtain ⟨e1, h1, h2⟩ := h x hx
    exact ⟨e1, h1, rfl, fun _ => h2⟩
  rw [List.filter_eq_self.mpr (fun _ _ => rfl)] at this
  exact this
theorem zipF_map {α : Type} (v : α → PV) : ∀ (l m : List α), zipF (l.map v) (m.map v) = (l.zip m).map fun q => .tup [v q.1, v q.2]
  | [], _ => by cases ‹List α› <;> rfl
  | _ :: _, [] => rfl
  | x :: l, y :: m => by
    show _ :: zipF (l.map v) (m.map v) = _
    rw [zipF_map v l m]
    rfl
theorem rises_zip : ∀ (l : List Int), Rises l → (l.zip l.tail).all (fun q => decide (q.1 < q.2)) = true
  | [], _ => rfl
  | [_], _ => rfl
  | x :: y :: r, h => by
    have h1 := List.pairwise_cons.mp h
    have ih := rises_zip (y :: r) h1.2
    show (decide (x < y) && ((y :: r).zip r).all _) = true
    rw [decide_eq_true (h1.1 y List.mem_cons_self)]
    exact ih
theorem cut1 {l : List PV} : cutF l (some 1) none = l.tail := by
  unfold cutF
  cases l with
  | nil => rfl
  | cons x r =>
    have e1 : HT.sIx (x :: r).length 0 (some 1) = 1 := by
      unfold HT.sIx
      simp
    have e2 : HT.sIx (x :: r).length (x :: r).length none = (x :: r).length := rfl
    rw [e1, e2]
    simp
theorem enum_map {α : Type} (v : α → PV) (l : List α) : enumF 0 (l.map v) = (l.zipIdx).map fun q => .tup [.int (q.2 : Int), v q.1] := by
  have : ∀ (l : List α) (i : Nat), enumF i (l.map v) = (l.zipIdx i).map fun q => PV.tup [.int (q.2 : Int), v q.1] := fun l => by
    induction l with
    | nil => intro i; rfl
    | cons x l ih =>
      intro i
      show _ :: enumF (i + 1) (l.map v) = _
      have := ih (i + 1)
      rw [List.zipIdx_cons, List.map_cons, ← this]
  exact this l 0
end Rc
/-! RcT: a receipt's text taken apart. -/
namespace PL
open PySem PySem.Spec L2
section
variable {e : Env} {st : Sto}
@[simp] theorem eSlS_e (f : EF PV) (lo hi : EF (Option Int)) : eSlS f lo hi e st = (f e st).bind fun v st => (lo e st).bind fun i st => (hi e st).bind fun j st => .of (slS v i j) st := rfl
@[simp] theorem iStrF_e (f : EF PV) : iStrF f e st = (f e st).bind fun v st => match v with
  | .str z => if z.length ≤ LINE then .ok (z.cps.toList.map fun c => PV.str ⟨#[c]⟩) st else .stuck
  | _ => .stuck := rfl
@[simp] theorem lTx_e (op : Str → PV → Option (List PV)) (a b : EF PV) : lTx op a b e st = (a e st).bind fun p st => match p with
  | .str x => (b e st).bind fun q st => .of (op x q) st
  | _ => .stuck := rfl
@[simp] theorem lLc2_e (it : EF (List PV)) (b : BF) (vs : List Nat) (c : EF Bool) (it1 : EF (List PV)) (b1 : BF) (vs1 : List Nat) (c1 : EF Bool) (t : EF PV) : lLc2 it b vs c it1 b1 vs1 c1 t e st = (it e st).bind fun xs st =>
  (lcLoop2 b c it1 b1 vs1 c1 t (wipeE e vs) xs st).bind fun l st => if l.length ≤ LINE then .ok l st else .stuck := rfl
@[simp] theorem eCMeth_e (c0 : Str) (F : Fn) (a : EF (List PV)) : eCMeth c0 F a e st = (a e st).bind fun xs st => F (.cls c0 :: xs) st := rfl
@[simp] theorem eMakeV_e (c0 : Str) (F : Fn) (n m len : Nat) (dps : List PV) (l : List Src) (x : EF PV) (a gk : EF (List PV)) : eMakeV c0 F n m len dps l x a gk e st = (x e st).bind fun p st => match p with
  | .cls c => if c = c0 then eMake c0 F n m len dps l a gk e st else .stuck
  | _ => .stuck := rfl
@[simp] theorem eMakeS_e (c0 : Str) (F : Fn) (n m len : Nat) (dps : List PV) (l : List Src) (a gk : EF (List PV)) : eMakeS c0 F n m len dps l a gk e st = (a e st).bind fun xs st => (gk e st).bind fun zs st =>
  if (xs.length = n ∧ zs.length = m) ∧ (plan l (.non :: xs) dps zs).length + 1 = len then makS c0 F (plan l (.non :: xs) dps zs) st else .stuck := rfl
@[simp] theorem eCallO_e (c0 : Str) (n : Nat) (F : Fn) (o : EF PV) (a : EF (List PV)) : eCallO c0 n F o a e st = (o e st).bind fun p st => if isIns c0 st p = true then (a e st).bind fun xs st => if isIns c0 st p = true ∧ xs.length + 1 = n then F (p :: xs) st else .stuck else .stuck := rfl
@[simp] theorem eCount_e (fo fe : EF PV) : eCount fo fe e st = (fo e st).bind fun l st => match l with
  | .lst l => (fe e st).bind fun k st => match k, intsOf l with
    | .int k, some ns => .ok (.int (ns.count k : Nat)) st
    | _, _ => .stuck
  | _ => .stuck := rfl
@[simp] theorem aStar_e (a : EF PV) (r : EF (List PV)) : aStar a r e st = (a e st).bind fun x st => match x with
  | .tup l => (r e st).bind fun ys st => .ok (l ++ ys) st
  | .tud l => (r e st).bind fun ys st => .ok (l ++ ys) st
  | .lst l => (r e st).bind fun ys st => .ok (l ++ ys) st
  | _ => .stuck := rfl
@[simp] theorem eCmpO_e (c0 : Str) (neg : Bool) (F : Fn) (fa fb : EF PV) : eCmpO c0 neg F fa fb e st = (fa e st).bind fun p st => (fb e st).bind fun q st => if isIns c0 st p = true ∧ isIns c0 st q = true then match F [p, q] st with
  | .ok (.bl k) st => .ok (.bl (k ^^ neg)) st
  | _ => .stuck
  else .stuck := rfl
end
end PL
namespace Rc
open PySem PySem.Spec L2 PL
/-! ### signs that do not stand in a text -/
def Free (s : Nat) (x : Str) : Prop := s ∉ TL.tl x
theorem Free.append {s : Nat} {x y : Str} (h1 : Free s x) (h2 : Free s y) : Free s (x ++ y) := by
  unfold Free
  rw [TL.tl_append]
  exact fun z => (List.mem_append.mp z).elim h1 h2
theorem mem_joinL {s : Nat} {a : List Nat} : ∀ {l : List (List Nat)}, s ∈ TL.joinL a l → s ∈ a ∨ ∃ x ∈ l, s ∈ x
  | [], h => by cases h
  | [x], h => .inr ⟨x, List.mem_singleton.mpr rfl, h⟩
  | x :: y :: r, h => by
    have h : s ∈ x ++ (a ++ TL.joinL a (y :: r)) := h
    rcases List.mem_append.mp h with h | h
    · exact .inr ⟨x, List.mem_cons_self, h⟩
    · rcases List.mem_append.mp h with h | h
      · exact .inl h
      · rcases mem_joinL h with h | ⟨z, hz, h⟩
        · exact .inl h
        · exact .inr ⟨z, List.mem_cons_of_mem _ hz, h⟩
theorem Free.join {s : Nat} {a : Str} {l : List Str} (h1 : Free s a) (h2 : ∀ x ∈ l, Free s x) : Free s (Str.join a l) := fun z => by
  rw [TL.tl_join] at z
  rcases mem_joinL z with z | ⟨x, hx, z⟩
  · exact h1 z
  · obtain ⟨y, hy, rfl⟩ := List.mem_map.mp hx
    exact h2 y hy z
theorem tl_numT {i : Int} (h : 0 ≤ i) : TL.tl (numT i) = TL.numL i.toNat := by
  have := TL.tl_num i.toNat
  rw [Int.toNat_of_nonneg h] at this
  exact this
theorem free_num {s : Nat} {i : Int} (h : 0 ≤ i) (hs : s < 48 ∨ 57 < s) : Free s (numT i) := by
  unfold Free
  rw [tl_numT h]
  exact TL.numL_free hs
theorem free_nums {s : Nat} {l : List Int} (h : ∀ x ∈ l, 0 ≤ x) (hs : s < 48 ∨ 57 < s) (h32 : s ≠ 32) : Free s (numsT l) := Free.join (by unfold Free; rw [show TL.tl (" " : Str) = [32] by decide]; simpa using h32) fun y hy => by
  obtain ⟨x, hx, rfl⟩ := List.mem_map.mp hy
  exact free_num (h x hx) hs
/-! ### split, cut, partition -/
theorem splitF_join {a : Str} {s : Nat} {l : List Str} (ea : TL.tl a = [s]) (hs : s < 256) (hl : l ≠ []) (hf : ∀ x ∈ l, Free s x) (h1 : (Str.join a l).length + 2 ≤ 16777216) (h2 : l.length ≤ 16777216) : splitF (Str.join a l) (.str a) = some (l.map PV.str) := by
  have e : PySem.Txt.split (Str.join a l) a = l := by
    rw [← TL.join_eq]
    refine TL.split_join ea ?_ hl hf
    rw [← Array.all_toList]
    show (TL.tl a).all _ = true
    rw [ea]
    simpa using hs
  have ha : (a.length == 0) = false := by
    rw [TL.len_tl, ea]
    rfl
  unfold splitF
  dsimp only
  rw [e, if_pos ⟨⟨ha, h1⟩, h2⟩]
theorem cut_pre {a x : Str} (h : (a ++ x).length ≤ 16777216) {n : Int} (hn : n = (a.length : Int)) : slS (.str (a ++ x)) (some n) none = some (.str x) := by
  subst hn
  unfold slS
  dsimp only
  rw [if_pos (show (a ++ x).length ≤ LINE from h)]
  congr 2
  refine TL.ext_tl ?_
  show ((a ++ x).cps.toList.drop _).take _ = x.cps.toList
  rw [HT.sIx_nat, HT.sIx_none, Str.length_append, Nat.min_eq_left (Nat.le_add_right _ _)]
  have e1 : (a ++ x).cps.toList = a.cps.toList ++ x.cps.toList := TL.tl_append a x
  rw [e1]
  have la : a.cps.toList.length = a.length := Array.length_toList
  have lx : x.cps.toList.length = x.length := Array.length_toList
  rw [← la, List.drop_left, List.take_of_length_le (by rw [lx]; omega)]
theorem cut_nl {x y : Str} (hy : y.length = 1) (h : (x ++ y).length ≤ 16777216) : slS (.str (x ++ y)) none (some (-1)) = some (.str x) := by
  unfold slS
  dsimp only
  rw [if_pos (show (x ++ y).length ≤ LINE from h)]
  congr 2
  refine TL.ext_tl ?_
  show ((x ++ y).cps.toList.drop _).take _ = x.cps.toList
  have e0 : HT.sIx (x ++ y).length (x ++ y).length (some (-1)) = x.length := by
    show (if (-1 : Int) < 0 then ((-1 : Int) + ((x ++ y).length : Int)).toNat else min (-1 : Int).toNat (x ++ y).length) = _
    rw [if_pos (by decide), Str.length_append, hy]
    omega
  rw [e0, HT.sIx_none, List.drop_zero, Nat.sub_zero]
  have e1 : (x ++ y).cps.toList = x.cps.toList ++ y.cps.toList := TL.tl_append x y
  have lx : x.cps.toList.length = x.length := Array.length_toList
  rw [e1, ← lx, List.take_left]
theorem starts_no {a b : Str} {s : Nat} {l : List Nat} {t : Nat} {m : List Nat} (ha : TL.tl a = s :: l) (hb : TL.tl b = t :: m) (h : s ≠ t) : PySem.Txt.startswith a b = false := by
  unfold PySem.Txt.startswith
  have e : Builtin.Str.subAt a b 0 = false := by
    rw [PySem.StrLaws.subAt_eq, List.drop_zero]
    show ((TL.tl a).take b.length == TL.tl b) = false
    rw [ha, hb, TL.len_tl, hb]
    simp [h]
  rw [e, Bool.and_false]
theorem partF_ok {a b y : Str} (h : Free 32 a) (hy : TL.tl y = 32 :: [111, 102, 32]) (hl : (a ++ y ++ b).length ≤ 16777216) : partF (a ++ y ++ b) (.str y) = some (.tup [.str a, .str y, .str b]) := by
  have e := TL.partition_app hy (a := a) (b := b) h
  have hz : (y.length == 0) = false := by
    rw [TL.len_tl, hy]
    rfl
  unfold partF
  dsimp only
  rw [e, if_pos ⟨hz, hl⟩]
theorem lenF_str {x : Str} (h : x.length ≤ 16777216) : lenF [.str x] = some (.int x.length) := by
  show (if x.length ≤ LINE then some (PV.int x.length) else none) = _
  rw [if_pos (show x.length ≤ LINE from h)]
/-! ### numbers -/
theorem num_len {i : Int} (h1 : 0 ≤ i) (h2 : i ≤ 9999) : 1 ≤ (numT i).length ∧ (numT i).length ≤ 4 := by
  have e : (numT i).length = (TL.numL i.toNat).length := by rw [TL.len_tl, tl_numT h1]
  rw [e]
  refine ⟨?_, TL.numL_len (by decide) (by omega)⟩
  cases h : TL.numL i.toNat with
  | nil => exact absurd h (TL.numL_ne _)
  | cons => exact Nat.succ_le_succ (Nat.zero_le _)
theorem intF_num {i : Int} (h1 : 0 ≤ i) (h2 : i ≤ 9999) : intF [.str (numT i)] = some (.int i) := by
  have e := TL.int_num (n := i.toNat) (by
    have := TL.numL_len (n := i.toNat) (k := 4) (by decide) (by omega)
    omega)
  rw [Int.toNat_of_nonneg h1] at e
  have e : PySem.intText? (numT i) = some i := e
  unfold intF
  dsimp only
  rw [e]
  dsimp only
  rw [if_pos (by have := (num_len h1 h2).2; omega)]
theorem figs (c : Nat) (h : 48 ≤ c ∧ c ≤ 57) : inSign (.str ⟨#[c]⟩) (.str "0123456789") = some (.bl true) := by
  unfold inSign
  dsimp only
  have e : TL.tl ("0123456789" : Str) = [48, 49, 50, 51, 52, 53, 54, 55, 56, 57] := by decide
  show some (PV.bl (decide (c ∈ TL.tl ("0123456789" : Str)))) = _
  rw [e, decide_eq_true]
  have : c = 48 ∨ c = 49 ∨ c = 50 ∨ c = 51 ∨ c = 52 ∨ c = 53 ∨ c = 54 ∨ c = 55 ∨ c = 56 ∨ c = 57 := by omega
  rcases this with rfl | rfl | rfl | rfl | rfl | rfl | rfl | rfl | rfl | rfl <;> simp
theorem num_signs {i : Int} (h : 0 ≤ i) : ∀ c ∈ (numT i).cps.toList, 48 ≤ c ∧ c ≤ 57 := fun c hc => by
  have hc : c ∈ TL.numL i.toNat := by rw [← tl_numT h]; exact hc
  exact TL.numL_digits _ c hc
/-! ### lines -/
def wordT (p : Int × Int) : Str := Str.join ":" [numT p.1, numT p.2]
theorem dealT_words (d : Deal) : dealT d = Str.join " " ("deal" :: d.map wordT) := by
  have e : ∀ (d : Deal) (x : Str), Str.join " " (x :: d.map wordT) = x ++ Str.join "" (d.map offT) := fun d => by
    induction d with
    | nil => intro x; show x = x ++ Str.empty; rw [Str.append_empty]
    | cons p d ih =>
      intro x
      show x ++ (" " : Str) ++ Str.join " " (wordT p :: d.map wordT) = x ++ Str.join "" (offT p :: d.map offT)
      rw [ih]
      have e0 : ("" : Str) = Str.empty := by decide
      have j : Str.join "" (offT p :: d.map offT) = offT p ++ Str.join "" (d.map offT) := by
        cases d with
        | nil => show offT p = offT p ++ Str.empty; rw [Str.append_empty]
        | cons q r =>
          show offT p ++ ("" : Str) ++ Str.join "" (offT q :: r.map offT) = _
          rw [e0, Str.append_empty]
          rfl
      rw [j]
      have w : offT p = (" " : Str) ++ wordT p := by
        show ((" " : Str) ++ numT p.1) ++ (":" : Str) ++ numT p.2 = (" " : Str) ++ (numT p.1 ++ (":" : Str) ++ numT p.2)
        simp only [Str.append_assoc]
      rw [w]
      simp only [Str.append_assoc]
  exact (e d "deal").symm
end Rc
/-! RcU: data equal to itself; two-clause comprehensions. -/
namespace Rc
open PySem PySem.Spec L2 PL
theorem lc2_bl {b : BF} {vs1 : List Nat} {it1 : EF (List PV)} {b1 : BF} {t : EF PV} {e : PL.Env} {st : Sto} {α : Type} (v : α → PV) (n : Nat) : ∀ l : List α, (∀ x ∈ l, ∃ e1 ys m, b (v x) e = some e1 ∧ it1 e1 st = .ok ys st ∧ lcLoop b1 tYesF t (wipeE e1 vs1) ys st = .ok (List.replicate m (.bl true)) st ∧ m ≤ n) →
    ∃ m, lcLoop2 b tYesF it1 b1 vs1 tYesF t e (l.map v) st = .ok (List.replicate m (.bl true)) st ∧ m ≤ l.length * n
  | [], _ => ⟨0, rfl, Nat.zero_le _⟩
  | x :: l, h => by
    obtain ⟨e1, ys, m, h1, h2, h3, h4⟩ := h x List.mem_cons_self
    obtain ⟨k, k1, k2⟩ := lc2_bl v n l fun y hy => h y (List.mem_cons_of_mem _ hy)
    refine ⟨m + k, ?_, by rw [List.length_cons, Nat.add_mul, Nat.one_mul]; omega⟩
    rw [List.map_cons]
    unfold lcLoop2
    rw [h1]
    dsimp only
    have e0 : (tYesF e1 st : RE Bool) = .ok true st := rfl
    rw [e0]
    show (((it1 e1 st).noE.bind fun ys st => lcLoop b1 tYesF t (wipeE e1 vs1) ys st).bind fun l1 st => (lcLoop2 b tYesF it1 b1 vs1 tYesF t e (l.map v) st).bind fun l2 st => .ok (l1 ++ l2) st) = _
    rw [h2]
    show ((lcLoop b1 tYesF t (wipeE e1 vs1) ys st).bind fun l1 st => (lcLoop2 b tYesF it1 b1 vs1 tYesF t e (l.map v) st).bind fun l2 st => .ok (l1 ++ l2) st) = _
    rw [h3]
    show ((lcLoop2 b tYesF it1 b1 vs1 tYesF t e (l.map v) st).bind fun l2 st => .ok (List.replicate m (PV.bl true) ++ l2) st) = _
    rw [k1]
    show RE.ok (List.replicate m (PV.bl true) ++ List.replicate k (PV.bl true)) st = _
    rw [List.replicate_append_replicate]
theorem allF_rep (m : Nat) : allF [.lst (List.replicate m (.bl true))] = some (.bl true) := by
  have e : ((List.range m).map fun _ => PV.bl true) = List.replicate m (PV.bl true) := by
    rw [List.map_const', List.length_range]
  rw [← e]
  exact allF_true (List.range m)
mutual
theorem eqv_self : ∀ d : PyData, PyData.canLay0 d = true → PyData.eqv d d = true
  | .none, _ => by simp [PyData.eqv]
  | .bool b, _ => by simp [PyData.eqv]
  | .int i, _ => by simp [PyData.eqv]
  | .str x, _ => by simp [PyData.eqv]
  | .list xs, h => by
    simp only [PyData.eqv]
    exact eqvs_self xs (by simpa only [PyData.canLay0] using h)
  | .tuple xs, h => by
    simp only [PyData.eqv]
    exact eqvs_self xs (by simpa only [PyData.canLay0] using h)
  | .dict _, h => by simp [PyData.canLay0] at h
theorem eqvs_self : ∀ l : List PyData, PyData.canLayAll0 l = true → PyData.eqvAll l l = true
  | [], _ => by simp [PyData.eqvAll]
  | x :: xs, h => by
    have h : x.canLay0 = true ∧ PyData.canLayAll0 xs = true := by simpa [PyData.canLayAll0] using h
    simp only [PyData.eqvAll]
    rw [eqv_self x h.1, eqvs_self xs h.2]
    rfl
end
/-- small data equals itself -/
theorem eqG_sm {p : PV} (h1 : smB p = true) (h2 : dpN p ≤ 30) : eqG p p = some (.bl true) ∧ neG p p = some (.bl false) := by
  obtain ⟨d, e, k1, k2, k3, k4, k5, k6⟩ := sm_data p h1
  have hs : SeqAt.shaped d = true := by
    unfold SeqAt.shaped
    simp only [Bool.and_eq_true, decide_eq_true_eq]
    exact ⟨k1, by omega⟩
  unfold eqG neG
  rw [e]
  dsimp only
  rw [if_pos ⟨hs, hs⟩, if_pos ⟨hs, hs⟩, eqv_self d k1]
  exact ⟨rfl, rfl⟩
theorem neF_sm {p : PV} (h1 : smB p = true) (h2 : dpN p ≤ 30) : neF p p = some (.bl false) := by
  unfold neF
  split
  · simp
  · exact (eqG_sm h1 h2).2
end Rc
/-! RcG: nested groups, how they come about. -/
namespace Rc
open PySem PySem.Spec L2 PL
def Apart (a b : List Int) : Prop := ∀ x ∈ a, x ∉ b
theorem Apart.symm {a b : List Int} (h : Apart a b) : Apart b a := fun x h1 h2 => h x h2 h1
/-- blocks: apart, each rising and not empty, of numbers below m -/
structure Blocks (m : Nat) (B : List (List Int)) : Prop where
  ne : ∀ b ∈ B, b ≠ []
  up : ∀ b ∈ B, Rises b
  lt : ∀ b ∈ B, ∀ x ∈ b, 0 ≤ x ∧ x < m
  ap : B.Pairwise Apart
theorem Blocks.perm {m : Nat} {B C : List (List Int)} (h : Blocks m B) (p : C.Perm B) : Blocks m C :=
  ⟨fun b hb => h.ne b (p.mem_iff.mp hb), fun b hb => h.up b (p.mem_iff.mp hb), fun b hb => h.lt b (p.mem_iff.mp hb), (p.pairwise_iff fun h => h.symm).mpr h.ap⟩
/-- groups over blocks -/
structure Over (m : Nat) (B : List (List Int)) (G : List Grp) : Prop where
  ok : ∀ g ∈ G, GrpOk m g
  mt : G.Pairwise fun a b => Meet a.2 b.2
  inn : ∀ g ∈ G, ∃ b ∈ B, ∀ x ∈ g.2, x ∈ b
theorem Over.perm {m : Nat} {B C : List (List Int)} {G : List Grp} (h : Over m B G) (p : C.Perm B) : Over m C G :=
  ⟨h.ok, h.mt, fun g hg => let ⟨b, h1, h2⟩ := h.inn g hg; ⟨b, p.mem_iff.mpr h1, h2⟩⟩
theorem Meet.symm {a b : List Int} (h : Meet a b) : Meet b a := ⟨fun z => h.1 z.symm, by
  rcases h.2 with h | h | h
  · exact .inl (Apart.symm h)
  · exact .inr (.inr h)
  · exact .inr (.inl h)⟩
theorem rises_of {l : List Int} (h1 : l.Pairwise (· ≤ ·)) (h2 : l.Nodup) : Rises l := by
  induction l with
  | nil => exact .nil
  | cons x l ih =>
    have a := List.pairwise_cons.mp h1
    have b := List.nodup_cons.mp h2
    refine List.pairwise_cons.mpr ⟨fun y hy => ?_, ih a.2 b.2⟩
    have h3 := a.1 y hy
    have h4 : x ≠ y := fun e => b.1 (by rw [e]; exact hy)
    omega
theorem Rises.nodup {l : List Int} (h : Rises l) : l.Nodup := by
  induction l with
  | nil => exact .nil
  | cons x l ih =>
    have a := List.pairwise_cons.mp h
    refine List.nodup_cons.mpr ⟨fun hx => ?_, ih a.2⟩
    have := a.1 x hx
    omega
theorem flat_nodup : ∀ {S : List (List Int)}, (∀ b ∈ S, Rises b) → S.Pairwise Apart → S.flatten.Nodup
  | [], _, _ => .nil
  | b :: S, h, p => by
    have a := List.pairwise_cons.mp p
    rw [List.flatten_cons]
    refine List.nodup_append.mpr ⟨(h b List.mem_cons_self).nodup, flat_nodup (fun c hc => h c (List.mem_cons_of_mem _ hc)) a.2, fun x hx y hy e => ?_⟩
    obtain ⟨d, hd, hy⟩ := List.mem_flatten.mp hy
    subst e
    exact a.1 d hd x hx hy
/-- some blocks put together -/
theorem join_blocks {m : Nat} {S R : List (List Int)} (h : Blocks m (S ++ R)) (hS : S ≠ []) : Blocks m (R ++ [isort S.flatten]) ∧ Rises (isort S.flatten) := by
  have p := isort_perm S.flatten
  have mem : ∀ x, x ∈ isort S.flatten ↔ ∃ b ∈ S, x ∈ b := fun x => by rw [p.mem_iff, List.mem_flatten]
  have ap := List.pairwise_append.mp h.ap
  have up : Rises (isort S.flatten) := rises_of (isort_sorted _) (p.nodup_iff.mpr (flat_nodup (fun b hb => h.up b (List.mem_append_left _ hb)) ap.1))
  refine ⟨⟨fun b hb => ?_, fun b hb => ?_, fun b hb x hx => ?_, ?_⟩, up⟩
  · rcases List.mem_append.mp hb with hb | hb
    · exact h.ne b (List.mem_append_right _ hb)
    · rw [List.mem_singleton.mp hb]
      cases S with
      | nil => exact absurd rfl hS
      | cons s S =>
        cases s with
        | nil => exact absurd rfl (h.ne [] (by simp))
        | cons x s =>
          intro e
          have q := (mem x).mpr ⟨x :: s, List.mem_cons_self, List.mem_cons_self⟩
          rw [e] at q
          cases q
  · rcases List.mem_append.mp hb with hb | hb
    · exact h.up b (List.mem_append_right _ hb)
    · rw [List.mem_singleton.mp hb]
      exact up
  · rcases List.mem_append.mp hb with hb | hb
    · exact h.lt b (List.mem_append_right _ hb) x hx
    · rw [List.mem_singleton.mp hb] at hx
      obtain ⟨c, hc, hx⟩ := (mem x).mp hx
      exact h.lt c (List.mem_append_left _ hc) x hx
  · refine List.pairwise_append.mpr ⟨ap.2.1, List.pairwise_singleton _ _, fun b hb c hc => ?_⟩
    rw [List.mem_singleton.mp hc]
    intro x hx hx2
    obtain ⟨d, hd, hx3⟩ := (mem x).mp hx2
    exact ap.2.2 d hd b hb x hx3 hx
theorem join_over {m : Nat} {S R : List (List Int)} {G : List Grp} (h : Blocks m (S ++ R)) (o : Over m (S ++ R) G) : Over m (R ++ [isort S.flatten]) G := by
  refine ⟨o.ok, o.mt, fun g hg => ?_⟩
  obtain ⟨b, hb, hx⟩ := o.inn g hg
  rcases List.mem_append.mp hb with hb | hb
  · exact ⟨isort S.flatten, by simp, fun x hx' => (isort_perm _).mem_iff.mpr (List.mem_flatten.mpr ⟨b, hb, hx x hx'⟩)⟩
  · exact ⟨b, by simp [hb], hx⟩
/-- .. and told as a group -/
theorem join_new {m : Nat} {S R : List (List Int)} {G : List Grp} {k : Int} (h : Blocks m (S ++ R)) (hS : S ≠ []) (o : Over m (S ++ R) G) (hn : ∀ g ∈ G, g.2 ≠ isort S.flatten) (hk : 0 ≤ k ∧ k ≤ 5) : Over m (R ++ [isort S.flatten]) (G ++ [(k, isort S.flatten)]) := by
  obtain ⟨b1, up⟩ := join_blocks h hS
  have o1 := join_over h o
  have ap := List.pairwise_append.mp b1.ap
  refine ⟨fun g hg => ?_, List.pairwise_append.mpr ⟨o1.mt, List.pairwise_singleton _ _, fun a ha g hg => ?_⟩, fun g hg => ?_⟩
  · rcases List.mem_append.mp hg with hg | hg
    · exact o.ok g hg
    · rw [List.mem_singleton.mp hg]
      exact ⟨hk.1, hk.2, b1.ne _ (by simp), up, b1.lt _ (by simp)⟩
  · rw [List.mem_singleton.mp hg]
    refine ⟨hn a ha, ?_⟩
    obtain ⟨b, hb, hx⟩ := o1.inn a ha
    rcases List.mem_append.mp hb with hb | hb
    · exact .inl fun x h1 h2 => ap.2.2 b hb _ (List.mem_singleton.mpr rfl) x (hx x h1) h2
    · rw [List.mem_singleton.mp hb] at hx
      exact .inr (.inl hx)
  · rcases List.mem_append.mp hg with hg | hg
    · exact o1.inn g hg
    · rw [List.mem_singleton.mp hg]
      exact ⟨_, by simp, fun x hx => hx⟩
/-- single deals -/
def singles (m : Nat) : List (List Int) := (List.range m).map fun i : Nat => [(i : Int)]
theorem singles_ok (m : Nat) : Blocks m (singles m) := by
  have get : ∀ b ∈ singles m, ∃ i : Nat, i < m ∧ b = [(i : Int)] := fun b hb => by
    obtain ⟨i, hi, rfl⟩ := List.mem_map.mp hb
    exact ⟨i, List.mem_range.mp hi, rfl⟩
  refine ⟨fun b hb => ?_, fun b hb => ?_, fun b hb x hx => ?_, ?_⟩
  · obtain ⟨i, _, rfl⟩ := get b hb
    simp
  · obtain ⟨i, _, rfl⟩ := get b hb
    exact List.pairwise_singleton _ _
  · obtain ⟨i, hi, rfl⟩ := get b hb
    rw [List.mem_singleton.mp hx]
    omega
  · refine List.pairwise_map.mpr (List.Pairwise.imp (fun {a b} hab => ?_) List.pairwise_lt_range)
    intro x hx hy
    have e1 := List.mem_singleton.mp hx
    have e2 := List.mem_singleton.mp hy
    omega
theorem over_nil {m : Nat} {B : List (List Int)} : Over m B [] := ⟨by simp, .nil, by simp⟩
theorem grps_of {m : Nat} {B : List (List Int)} {G H : List Grp} (o : Over m B G) (hl : G.length ≤ 5) (p : H.Perm G) : GrpsOk m H :=
  ⟨by rw [p.length_eq]; exact hl, fun g hg => o.ok g (p.mem_iff.mp hg), (p.pairwise_iff fun h => h.symm).mpr o.mt⟩
/-! ### values, once more -/
theorem forLoop_nx {b : BF} {t : SF} {x : PV} {xs : List PV} {e e1 e2 : PL.Env} {st st2 : Sto} (h1 : b x e = some e1) (h2 : t e1 st = .nx e2 st2) : forLoop b t (x :: xs) e st = forLoop b t xs e2 st2 := by
  have key : ∀ r, forLoop b t xs e2 st2 = r → forLoop b t (x :: xs) e st = r := fun r h => by
    unfold forLoop
    rw [h1]
    dsimp only
    rw [h2]
    exact h
  exact key _ rfl
theorem lcLoop_ok {b : BF} {t : EF PV} {x y : PV} {xs ys : List PV} {e e1 : PL.Env} {st st2 st3 : Sto} (h1 : b x e = some e1) (h2 : t e1 st = .ok y st2) (h3 : lcLoop b tYesF t e xs st2 = .ok ys st3) : lcLoop b tYesF t e (x :: xs) st = .ok (y :: ys) st3 := by
  unfold lcLoop
  rw [h1]
  simp [h2, h3]
theorem sortedF_ints (l : List Int) : sortedF [.tup (l.map PV.int)] = some ((isort l).map PV.int) := by
  have : intsOf (l.map PV.int) = some l := by
    induction l with
    | nil => rfl
    | cons i l ih =>
      show (intsOf (l.map PV.int)).map _ = _
      rw [ih]
      rfl
  show (intsOf (l.map PV.int)).map _ = _
  rw [this]
  rfl
theorem eraseIdx_mapE {α β : Type} (v : α → β) : ∀ (l : List α) (k : Nat), (l.map v).eraseIdx k = (l.eraseIdx k).map v
  | [], _ => rfl
  | _ :: _, 0 => rfl
  | x :: l, k + 1 => by
    show v x :: (l.map v).eraseIdx k = v x :: (l.eraseIdx k).map v
    rw [eraseIdx_mapE v l k]
theorem get_erase {α : Type} : ∀ (l : List α) (k : Nat) (h : k < l.length), (l[k] :: l.eraseIdx k).Perm l
  | [], _, h => by cases h
  | x :: l, 0, _ => List.Perm.refl _
  | x :: l, k + 1, h => by
    have ih := get_erase l k (by simpa using h)
    exact (List.Perm.swap x _ _).trans (ih.cons x)
theorem popAt_map {α : Type} (v : α → PV) {l : List α} {i : Int} (h0 : 0 ≤ i) (h1 : i < l.length) : ∃ x r, popAt (l.map v) i = some (v x, r.map v) ∧ (x :: r).Perm l ∧ r.length + 1 = l.length := by
  obtain ⟨k, rfl⟩ := Int.eq_ofNat_of_zero_le h0
  have hk : k < l.length := by omega
  refine ⟨l[k], l.eraseIdx k, ?_, get_erase l k hk, by rw [List.length_eraseIdx_of_lt hk]; omega⟩
  unfold popAt ixN
  simp [hk, eraseIdx_mapE]
theorem toDs_ivs : ∀ l : List (List Int), toDs (l.map intsV) = some (l.map fun a => .tuple (a.map PyData.int))
  | [] => by unfold List.map toDs; rfl
  | a :: l => by
    rw [List.map_cons]
    unfold toDs
    rw [toD_intsV, toDs_ivs l]
    rfl
theorem shaped_ivs (l : List (List Int)) : SeqAt.shaped (.list (l.map fun a => .tuple (a.map PyData.int))) = true := by
  have h1 : ∀ l : List (List Int), PyData.canLayAll0 (l.map fun a => .tuple (a.map PyData.int)) = true := fun l => by
    induction l with
    | nil => rfl
    | cons a l ih =>
      show (PyData.canLayAll0 (a.map PyData.int) && PyData.canLayAll0 _) = true
      rw [canLay_ints, ih]
      rfl
  have h2 : ∀ l : List (List Int), PyData.depthAll (l.map fun a => .tuple (a.map PyData.int)) ≤ 1 := fun l => by
    induction l with
    | nil => exact Nat.zero_le _
    | cons a l ih =>
      show max (PyData.depthAll (a.map PyData.int) + 1) (PyData.depthAll _) ≤ 1
      rw [depth_ints]
      exact Nat.max_le.mpr ⟨Nat.le_refl _, ih⟩
  unfold SeqAt.shaped
  simp only [Bool.and_eq_true, decide_eq_true_eq]
  refine ⟨h1 l, ?_⟩
  show PyData.depthAll _ + 1 ≤ 64
  have := h2 l
  omega
theorem notin_ivs (a : List Int) (l : List (List Int)) : inD (fun b => !b) (intsV a) (.lst (l.map intsV)) = some (.bl (!decide (a ∈ l))) := by
  unfold inD
  dsimp only
  rw [toD_intsV, toDs_ivs]
  dsimp only
  rw [if_pos ⟨shaped_ints a, shaped_ivs l⟩, List.any_map]
  congr 3
  rw [Bool.eq_iff_iff]
  simp only [List.any_eq_true, decide_eq_true_eq, Function.comp]
  constructor
  · rintro ⟨b, hb, e⟩
    have e : PyData.eqvAll (b.map PyData.int) (a.map PyData.int) = true := e
    rw [eqvAll_ints] at e
    rw [← of_decide_eq_true e]
    exact hb
  · intro h
    refine ⟨a, h, ?_⟩
    show PyData.eqvAll (a.map PyData.int) (a.map PyData.int) = true
    rw [eqvAll_ints]
    simp
/-! ### fixed receipts -/
end Rc
/-! RcV: what stands against a draft. -/
namespace Rc
open PySem PySem.Spec L2 PL
/-! ### the law's words -/
def offB (ds : List Deal) (p : Int × Int) : Bool := decide (0 ≤ p.1 ∧ p.1 < (ds.length : Int)) && (match ds[p.1.toNat]? with
  | some d => decide (p.2 ∈ d.map (·.1))
  | none => false)
end Rc
/-! RcW: repr of values with greater ints. -/
namespace Rc
open PySem PySem.Spec L2 PL
theorem shown13 {i : Int} (h1 : -999999999999 ≤ i) (h2 : i ≤ 9999999999999) : (PyData.shown (.int i)).length ≤ 13 := by
  by_cases h : i ≤ 999999999999
  · exact PySem.PyData.shown_int_le2 h1 h
  · exact PyProof.Rows.toString_length_le (v := i) (by omega) (by decide) (by omega)
mutual
def smC : PV → Bool
  | .non => true
  | .bl _ => true
  | .int i => decide (-999999999999 ≤ i ∧ i ≤ 9999999999999)
  | .tup l => smCs l
  | .lst l => smCs l
  | .str y => PyData.strOk y
  | .scr _ => false
  | .gl _ => false
  | .ins _ _ _ => false
  | .cls _ => false
  | .tud _ => false
  | .exn _ _ _ _ _ => false
def smCs : List PV → Bool
  | [] => true
  | p :: ps => smC p && smCs ps
end
mutual
def wtC : PV → Nat
  | .int _ => 44
  | .str y => y.cps.size
  | .tup l => wtCs l
  | .lst l => wtCs l
  | _ => 0
def wtCs : List PV → Nat
  | [] => 0
  | p :: ps => wtC p + 1 + wtCs ps
end
theorem log_le2 {i : Int} (h : -999999999999 ≤ i ∧ i ≤ 9999999999999) (h0 : i ≠ 0) : i.natAbs.log2 + 1 ≤ 44 := by
  have : i.natAbs < 2 ^ 44 := by omega
  have := (Nat.log2_lt (by omega)).mpr this
  omega
mutual
theorem tm_data : ∀ (p : PV), smC p = true → ∃ d, toD p = some d ∧ d.canLay0 = true ∧ d.intsShort 13 = true ∧ d.showable = true ∧ d.hasDict = false ∧ d.depth = dpN p ∧ d.weight ≤ wtC p
  | .non, _ => ⟨.none, by unfold toD; rfl, rfl, rfl, rfl, rfl, rfl, Nat.le_refl _⟩
  | .bl b, _ => ⟨.bool b, by unfold toD; rfl, rfl, rfl, rfl, rfl, rfl, Nat.le_refl _⟩
  | .int i, h => by
    have h : decide (-999999999999 ≤ i ∧ i ≤ 9999999999999) = true := by unfold smC at h; exact h
    have h := of_decide_eq_true h
    refine ⟨.int i, by unfold toD; rfl, rfl, ?_, ?_, rfl, rfl, ?_⟩
    · exact decide_eq_true (shown13 h.1 h.2)
    · refine decide_eq_true ?_
      by_cases h0 : i = 0
      · subst h0
        decide
      · have := log_le2 h h0
        omega
    · show (if i == 0 then 0 else i.natAbs.log2 + 1) ≤ 44
      by_cases h0 : i = 0
      · subst h0
        decide
      · have := log_le2 h h0
        rw [if_neg (by simpa using h0)]
        omega
  | .tup l, h => by
    have h : smCs l = true := by unfold smC at h; exact h
    obtain ⟨ds, e, h1, h2, h3, h4, h5, h6⟩ := tm_datas l h
    exact ⟨.tuple ds, by unfold toD; rw [e]; rfl, h1, h2, h3, h4, by unfold dpN; rw [← h5]; rfl, by unfold wtC; exact h6⟩
  | .lst l, h => by
    have h : smCs l = true := by unfold smC at h; exact h
    obtain ⟨ds, e, h1, h2, h3, h4, h5, h6⟩ := tm_datas l h
    exact ⟨.list ds, by unfold toD; rw [e]; rfl, h1, h2, h3, h4, by unfold dpN; rw [← h5]; rfl, by unfold wtC; exact h6⟩
  | .str y, h => ⟨.str y, by unfold toD; rfl, by unfold smC at h; exact h, rfl, rfl, rfl, rfl, by unfold wtC; exact Nat.le_refl _⟩
  | .scr _, h => by unfold smC at h; cases h
  | .gl _, h => by unfold smC at h; cases h
  | .ins _ _ _, h => by unfold smC at h; cases h
  | .cls _, h => by unfold smC at h; cases h
  | .tud _, h => by unfold smC at h; cases h
  | .exn _ _ _ _ _, h => by unfold smC at h; cases h
theorem tm_datas : ∀ (l : List PV), smCs l = true → ∃ ds, toDs l = some ds ∧ PyData.canLayAll0 ds = true ∧ PyData.intsShortAll 13 ds = true ∧ PyData.showableAll ds = true ∧ PyData.hasDictAll ds = false ∧ PyData.depthAll ds = dpNs l ∧ PyData.weightAll ds ≤ wtCs l
  | [], _ => ⟨[], by unfold toDs; rfl, rfl, rfl, rfl, rfl, rfl, Nat.le_refl _⟩
  | p :: ps, h => by
    have h : (smC p && smCs ps) = true := by unfold smCs at h; exact h
    rw [Bool.and_eq_true] at h
    obtain ⟨d, e, h1, h2, h3, h4, h5, h6⟩ := tm_data p h.1
    obtain ⟨ds, e', k1, k2, k3, k4, k5, k6⟩ := tm_datas ps h.2
    refine ⟨d :: ds, by unfold toDs; rw [e, e'], ?_, ?_, ?_, ?_, ?_, ?_⟩
    · show (d.canLay0 && PyData.canLayAll0 ds) = true
      rw [h1, k1]; rfl
    · show (d.intsShort 13 && PyData.intsShortAll 13 ds) = true
      rw [h2, k2]; rfl
    · show (d.showable && PyData.showableAll ds) = true
      rw [h3, k3]; rfl
    · show (d.hasDict || PyData.hasDictAll ds) = false
      rw [h4, k4]; rfl
    · show max d.depth (PyData.depthAll ds) = dpNs (p :: ps)
      unfold dpNs
      rw [h5, k5]
    · show d.weight + 1 + PyData.weightAll ds ≤ wtCs (p :: ps)
      unfold wtCs
      omega
end
theorem repr_tm {p : PV} (h1 : smC p = true) (h2 : dpN p ≤ 30) (h3 : wtC p ≤ 1048576) : ∃ x, reprF [p] = some (.str x) := by
  obtain ⟨d, e, k1, k2, k3, k4, k5, k6⟩ := tm_data p h1
  have hs := PyProof.Rows.shown_le13 (d := d) (by
    show (PyData.canLay0 d && decide (PyData.depth d ≤ 64) && decide (PyData.weight d ≤ 2 ^ 20)) = true
    simp only [Bool.and_eq_true, decide_eq_true_eq]
    exact ⟨⟨k1, by omega⟩, by omega⟩) k2
  refine ⟨d.shown, ?_⟩
  unfold reprF
  dsimp only
  rw [e]
  dsimp only
  rw [if_pos ⟨k3, k4, by show _ ≤ 16777216; omega, by omega⟩]
/-- small, not deep, not heavy -/
def Tm (d w : Nat) (p : PV) : Prop := smC p = true ∧ dpN p ≤ d ∧ wtC p ≤ w
theorem Tm.mono {d w d' w' : Nat} {p : PV} (h : Tm d w p) (h1 : d ≤ d') (h2 : w ≤ w') : Tm d' w' p := ⟨h.1, Nat.le_trans h.2.1 h1, Nat.le_trans h.2.2 h2⟩
theorem tmB_list {α : Type} {f : α → PV} : ∀ {l : List α}, (∀ x ∈ l, smC (f x) = true) → smCs (l.map f) = true
  | [], _ => by unfold List.map smCs; rfl
  | x :: l, h => by
    rw [List.map_cons]
    unfold smCs
    rw [h x List.mem_cons_self, tmB_list fun y hy => h y (List.mem_cons_of_mem _ hy)]
    rfl
theorem wtC_list {α : Type} {f : α → PV} {n : Nat} : ∀ {l : List α}, (∀ x ∈ l, wtC (f x) ≤ n) → wtCs (l.map f) ≤ l.length * (n + 1)
  | [], _ => by unfold List.map wtCs; exact Nat.zero_le _
  | x :: l, h => by
    rw [List.map_cons]
    unfold wtCs
    have h1 := h x List.mem_cons_self
    have h2 := wtC_list (f := f) (n := n) (l := l) fun y hy => h y (List.mem_cons_of_mem _ hy)
    rw [List.length_cons, Nat.add_mul, Nat.one_mul]
    omega
theorem tm_lst {α : Type} {f : α → PV} {l : List α} {d w n : Nat} (hl : l.length ≤ n) (h : ∀ x ∈ l, Tm d w (f x)) : Tm (d + 1) (n * (w + 1)) (.lst (l.map f)) :=
  ⟨by unfold smC; exact tmB_list fun x hx => (h x hx).1, by unfold dpN; exact Nat.succ_le_succ (dp_list fun x hx => (h x hx).2.1), by unfold wtC; exact Nat.le_trans (wtC_list fun x hx => (h x hx).2.2) (Nat.mul_le_mul_right _ hl)⟩
theorem tm_lstI {l : List PV} {d w n : Nat} (hl : l.length ≤ n) (h : ∀ x ∈ l, Tm d w x) : Tm (d + 1) (n * (w + 1)) (.lst l) := by
  have := tm_lst (f := fun p : PV => p) hl h
  rwa [List.map_id'] at this
theorem Tm.same {d w : Nat} {p : PV} (h : Tm d w p) (h1 : d ≤ 30) (h2 : w ≤ 1048576) : ∃ x, reprF [p] = some (.str x) := repr_tm h.1 (Nat.le_trans h.2.1 h1) (Nat.le_trans h.2.2 h2)
end Rc
/-! PMi: comprehensions and loops in short forms, for simp. -/
namespace PL
open PySem PySem.Spec L2
section
variable {α β : Type} {e : Env} {st : Sto}
def lcStep (b : BF) (c : EF Bool) (t : EF PV) (e : Env) (st : Sto) (x : PV) : RE (Option PV) := match b x e with
  | none => .stuck
  | some e1 => (c e1 st).noE.bind fun k st => if k = true then (t e1 st).noE.bind fun y st => .ok (some y) st else .ok none st
def lcG (f : Sto → α → RE (Option PV)) : List α → Sto → RE (List PV)
  | [], st => .ok [] st
  | x :: xs, st => (f st x).bind fun y st => (lcG f xs st).bind fun ys st => .ok (y.toList ++ ys) st
theorem RE.bind_assoc {α β γ : Type} (r : RE α) (f : α → Sto → RE β) (g : β → Sto → RE γ) : (r.bind f).bind g = r.bind fun a st => (f a st).bind g := by cases r <;> rfl
theorem lcStep_e (b : BF) (c : EF Bool) (t : EF PV) (x : PV) : lcStep b c t e st x = match b x e with
  | none => .stuck
  | some e1 => (c e1 st).noE.bind fun k st => if k = true then (t e1 st).noE.bind fun y st => .ok (some y) st else .ok none st := rfl
theorem lcG_cons (f : Sto → α → RE (Option PV)) (x : α) (xs : List α) : lcG f (x :: xs) st = (f st x).bind fun y st => (lcG f xs st).bind fun ys st => .ok (y.toList ++ ys) st := rfl
theorem RE.bind_id {α : Type} (r : RE (List α)) : (r.bind fun ys st => RE.ok ([] ++ ys) st) = r := by cases r <;> rfl
theorem lcLoop_G (b : BF) (c : EF Bool) (t : EF PV) (v : α → PV) : ∀ (l : List α) (e : Env) (st : Sto), lcLoop b c t e (l.map v) st = lcG (fun st x => lcStep b c t e st (v x)) l st
  | [], _, _ => rfl
  | x :: l, e, st => by
    rw [List.map_cons, lcG_cons, lcStep_e]
    unfold lcLoop
    cases b (v x) e with
    | none => rfl
    | some e1 =>
      dsimp only
      rw [RE.bind_assoc]
      congr 1
      funext k s1
      rw [lcLoop_G b c t v l e s1]
      cases k with
      | false => exact (RE.bind_id _).symm
      | true =>
        rw [if_pos rfl, if_pos rfl, RE.bind_assoc]
        congr 1
        funext y s2
        rw [lcLoop_G b c t v l e s2]
        rfl
/-! loops that run to their end -/
theorem LINE_val : LINE = 16777216 := rfl
end
/-! two clauses -/
section
variable {α β : Type} {e : Env} {st : Sto}
end
end PL
/-! RcX: all choices as plain data, in order. -/
namespace Rc
open PySem PySem.Spec L2 PL
abbrev Ch := List (Int × Int)
/-- the groups that so many deals are too many for -/
def fulls (gs : List Grp) (l : List Int) : List Grp := gs.filter fun g => decide (g.1 < ((l.filter fun x => decide (x ∈ g.2)).length : Int))
def grow (gs : List Grp) (i : Int) (d : Deal) (ch : Ch) : List Ch := if fulls gs (ch.map (·.1) ++ [i]) = [] then (d.filter fun o => !decide (o.1 ∈ ch.map (·.2))).map fun o => ch ++ [(i, o.1)] else []
/-! what is true of all of them -/
structure ChIn (ds : List Deal) (n : Nat) (ch : Ch) : Prop where
  len : ch.length ≤ n
  lt : ∀ p ∈ ch, 0 ≤ p.1 ∧ p.1 < (n : Int)
  off : ∀ p ∈ ch, offB ds p = true
theorem ChIn.mono {ds : List Deal} {n m : Nat} {ch : Ch} (h : ChIn ds n ch) (k : n ≤ m) : ChIn ds m ch := ⟨Nat.le_trans h.len k, fun p hp => by have := h.lt p hp; omega, h.off⟩
/-! values -/
/-! sorting -/
/-! offers, drafts -/
mutual
theorem smC_of : ∀ (p : PV), smB p = true → smC p = true ∧ wtC p ≤ 2 * wtN p
  | .non, _ => by unfold smC wtC; exact ⟨rfl, Nat.zero_le _⟩
  | .bl _, _ => by unfold smC wtC; exact ⟨rfl, Nat.zero_le _⟩
  | .int i, h => by
    unfold smB at h
    have := of_decide_eq_true h
    unfold smC wtC wtN
    exact ⟨decide_eq_true (by omega), by decide⟩
  | .str x, h => by
    unfold smB at h
    unfold smC wtC wtN
    exact ⟨h, by omega⟩
  | .tup l, h => by
    unfold smB at h
    unfold smC wtC wtN
    exact smCs_of l h
  | .lst l, h => by
    unfold smB at h
    unfold smC wtC wtN
    exact smCs_of l h
  | .scr _, h => by unfold smB at h; cases h
  | .gl _, h => by unfold smB at h; cases h
  | .ins _ _ _, h => by unfold smB at h; cases h
  | .cls _, h => by unfold smB at h; cases h
  | .tud _, h => by unfold smB at h; cases h
  | .exn _ _ _ _ _, h => by unfold smB at h; cases h
theorem smCs_of : ∀ (l : List PV), smBs l = true → smCs l = true ∧ wtCs l ≤ 2 * wtNs l
  | [], _ => by unfold smCs wtCs; exact ⟨rfl, Nat.zero_le _⟩
  | p :: l, h => by
    unfold smBs at h
    rw [Bool.and_eq_true] at h
    have h1 := smC_of p h.1
    have h2 := smCs_of l h.2
    unfold smCs wtCs wtNs
    rw [h1.1, h2.1]
    exact ⟨rfl, by omega⟩
end
theorem Sm.tm {d w : Nat} {p : PV} (h : Sm d w p) : Tm d (2 * w) p := ⟨(smC_of p h.1).1, h.2.1, Nat.le_trans (smC_of p h.1).2 (Nat.mul_le_mul_left _ h.2.2)⟩
theorem cut_map {α : Type} (v : α → PV) (l : List α) (lo hi : Option Int) : ∃ m : List α, cutF (l.map v) lo hi = m.map v ∧ (∀ x ∈ m, x ∈ l) ∧ m.length ≤ l.length := by
  unfold cutF
  refine ⟨_, by rw [← List.map_drop, ← List.map_take], fun x hx => List.mem_of_mem_drop (List.mem_of_mem_take hx), by rw [List.length_take, List.length_drop]; omega⟩
end Rc
namespace PL
open PySem PySem.Spec L2
section
variable {e : Env} {st : Sto}
@[simp] theorem eRev_e (f : EF PV) : eRev f e st = (f e st).bind fun v st => .of (revF v) st := rfl
@[simp] theorem lSortSet_e (f : EF PV) : lSortSet f e st = (f e st).bind fun v st => .of (sortSetF v) st := rfl
end
end PL
/-! PMk: sorted(l, key=f), f a def. -/
namespace PL
variable {Zg : Prop}
open PySem PySem.Spec PyProof.Rows L2
/-- the keys, one call behind another; a: the list that is sorted, empty meanwhile; q: the keys' list -/
def keysR (sp : Sp) (a q : Addr) : List V → List V → Hp → (List V → Hp → Prop) → Prop
  | [], zs, H, C => C zs H
  | x :: xs, zs, H, C => sp [x] H (fun y H' => H' a = H a ∧ H' q = H q ∧ keysR sp a q xs (zs ++ [y]) (upd H' q (.lst (zs ++ [y]))) C) fun _ _ _ => False
abbrev emptyL (a : Addr) (n : Nat) : HO := .ext fun h => h.get? a = some (PyProof.Rows.seqObj "list" #[] n)
section
variable {X : Cx} {pins : List (Addr × Obj)} {σ : L2.St} {f : Addr} {fd : FuncData} {px : Str} {k : Nat} {sp : Sp} {a q : Addr} {n1 : Nat}
/-- what is known between two keys -/
structure KeyAt (X : Cx) (pins : List (Addr × Obj)) (σ : L2.St) (H0 : Hp) (s0 : Shared) (sp : Sp) (a q : Addr) (n1 : Nat) (xs : List V) (C : List V → Hp → Prop) (j : Nat) (s : Shared) : Prop where
  ex : ∃ (H : Hp) (zs : List V), Inv X pins σ H s ∧ H a = some (emptyL a n1) ∧ H q = some (.lst zs) ∧ zs.length = j ∧ keysR sp a q (xs.drop j) zs H C
end
end PL
/-! PMl: sorted(l, key=f), as a function. -/
namespace PL
variable {Zg : Prop}
open PySem PySem.Spec PyProof.Rows L2
def keysF (F : Fn) : List PV → Sto → Option (List PV × Sto)
  | [], st => some ([], st)
  | x :: xs, st => match F [x] st with
    | .ok y st1 => match keysF F xs st1 with
      | some (ys, st2) => some (y :: ys, st2)
      | none => none
    | _ => none
noncomputable def sortBy {α : Type} (l : List α) (ds : List PyData) : List α := ((l.zip ds).mergeSort (PySem.W.dataLe false Prod.snd)).map Prod.fst
open Classical in
noncomputable def sortF (F : Fn) (l : List PV) (st : Sto) : RE (List PV) := match keysF F l st with
  | some (ys, st') => match toDs ys with
    | some ds => if (PySem.W.AllAlike ds ∧ PySem.W.Sortable ds) ∧ ∀ d ∈ ds, d.depth ≤ 60 then .ok (sortBy l ds) st' else .stuck
    | none => .stuck
  | none => .stuck
noncomputable def lSortF (F : Fn) (f : EF PV) : EF (List PV) := fun e st => (f e st).bind fun v st => match v with
  | .lst l => sortF F l st
  | _ => .stuck
section
variable {K : PySem.W.Frag} {B B2 : Addr → Prop} {ρ ρ' : List Addr} {env : Env} {st st' : Sto} {σ : L2.St} {H H' : Hp} {F : Fn} {c q : Addr}
/-- behind some keys: all but q is as after a call -/
structure KPost (K : PySem.W.Frag) (B2 : Addr → Prop) (q : Addr) (ρ : List Addr) (H : Hp) (ρ' : List Addr) (st' : Sto) (H' : Hp) : Prop where
  rep : Rep K B2 ρ' [] st' [] H'
  pre : ρ <+: ρ'
  kp : ∀ a o, H a = some o → a ∉ ρ → a ≠ q → H' a = some o
  tr : ∀ a, H a ≠ none → H' a ≠ none
  fr : ∀ a ∈ ρ', a ∉ ρ → H a = none
theorem KPost.trans {ρ1 : List Addr} {st1 : Sto} {H1 : Hp} (a : KPost K B2 q ρ H ρ1 st1 H1) (b : KPost K B2 q ρ1 H1 ρ' st' H') : KPost K B2 q ρ H ρ' st' H' where
  rep := b.rep
  pre := a.pre.trans b.pre
  kp := fun x o e n m => b.kp x o (a.kp x o e n m) (fun z => by
    have := a.fr x z n
    rw [e] at this
    cases this) m
  tr := fun x h => b.tr x (a.tr x h)
  fr := fun x hx n => by
    by_cases h1 : x ∈ ρ1
    · exact a.fr x h1 n
    · have g := b.fr x hx h1
      cases e : H x with
      | none => rfl
      | some o => exact absurd g (a.tr x (by rw [e]; exact fun z => by cases z))
theorem KPost.rvs (P : KPost K B2 q ρ H ρ' st' H') (hq : B2 q) {l : List PV} {xs : List V} (h : RVs K (Excl B2 ρ [] []) ρ H l xs) : RVs K (Excl B2 ρ' [] []) ρ' H' l xs := by
  refine RVs.carry (fun a o e n => ?_) (fun a o e n => P.kp a o e (fun z => n (.inr (.inl z))) fun z => n (.inl (by rw [z]; exact hq))) P.pre l xs h
  rcases n with n | n | n
  · exact .inl n
  · by_cases h1 : a ∈ ρ
    · exact .inr (.inl h1)
    · have g := P.fr a n h1
      rw [e] at g
      cases g
  · exact (no_own n).elim
/-- an outer thing is written -/
theorem Rep.setB (R : Rep K B2 ρ [] st [] H) (hq : B2 q) {o : HO} (ho : ∀ xs, o ≠ .tup xs) : Rep K B2 ρ [] st [] (upd H q o) := by
  have ne : ∀ a, a ∈ ρ → a ≠ q := fun a ha z => R.rB a ha (by rw [z]; exact hq)
  have tr : ∀ a, H a ≠ none → upd H q o a ≠ none := fun a h => by
    by_cases e : a = q
    · rw [e, upd_same]; exact fun z => by cases z
    · rw [upd_ne e]; exact h
  refine ⟨rfl, R.lenC, R.nd, fun n cl a h1 h2 => ?_, fun a h => tr a (R.rT a h), R.rB, fun a h => (by
    by_cases ha : a = q
    · exact .of (by rw [ha, upd_same]) ho
    · exact (R.bN a h).keep fun o e => by rw [upd_ne ha]; exact e), fun i e h => by simp at h, fun a h => (no_own h).elim, fun i j l l' a h => by simp at h⟩
  exact (R.cell n cl a h1 h2).carry (fun _ _ _ n => n) (fun a o' e n => by rw [upd_ne (fun z => n (.inl (by rw [z]; exact hq)))]; exact e) List.prefix_rfl fun o' e => by rw [upd_ne (ne a (List.mem_of_getElem? h2))]; exact e
theorem KPost.set (R : Rep K B2 ρ [] st [] H) (hq : B2 q) {o : HO} (ho : ∀ xs, o ≠ .tup xs := by intro _ z; cases z) : KPost K B2 q ρ H ρ st (upd H q o) :=
  ⟨R.setB hq ho, List.prefix_rfl, fun a o' e _ n => by rw [upd_ne n]; exact e, fun a h => by
    by_cases e : a = q
    · rw [e, upd_same]; exact fun z => by cases z
    · rw [upd_ne e]; exact h, fun a h n => absurd h n⟩
theorem EPost.k (E : EPost K B2 ρ [] [] H ρ' st' H') : KPost K B2 q ρ H ρ' st' H' := ⟨E.rep, E.pre, fun a o e n _ => E.kp a o e n, E.tr, E.fr⟩
/-- two new things, held aside -/
theorem Rep.aside (R : Rep K B ρ env st σ H) (hc : H c = none) (hq : H q = none) (hcq : q ≠ c) {o1 o2 : HO} (h1 : ∀ xs, o1 ≠ .tup xs := by intro _ z; cases z) (h2 : ∀ xs, o2 ≠ .tup xs := by intro _ z; cases z) : Rep K (fun x => Outer B env σ x ∨ x = c ∨ x = q) ρ [] st [] (upd (upd H c o1) q o2) := by
  have R1 := R.call
  have at_ : ∀ a o, H a = some o → upd (upd H c o1) q o2 a = some o := fun a o e => by
    rw [upd_ne (ne_of_none e hq), upd_ne (ne_of_none e hc)]
    exact e
  have tr : ∀ a, H a ≠ none → upd (upd H c o1) q o2 a ≠ none := fun a h => by
    cases e : H a with
    | none => exact absurd e h
    | some o => rw [at_ a o e]; exact fun z => by cases z
  refine ⟨rfl, R1.lenC, R1.nd, fun n cl a h1 h2 => ?_, fun a h => tr a (R1.rT a h), fun a h z => ?_, fun a h => ?_, fun i e h => by simp at h, fun a h => (no_own h).elim, fun i j l l' a h => by simp at h⟩
  · refine (R1.cell n cl a h1 h2).carry (fun a o e n => ?_) (fun a o e _ => at_ a o e) List.prefix_rfl fun o e => at_ a o e
    rcases n with (n | n | n) | n | n
    · exact .inl n
    · rw [n, hc] at e; cases e
    · rw [n, hq] at e; cases e
    · exact .inr (.inl n)
    · exact .inr (.inr n)
  · rcases z with z | z | z
    · exact R1.rB a h z
    · exact R1.rT a h (by rw [z]; exact hc)
    · exact R1.rT a h (by rw [z]; exact hq)
  · rcases h with h | h | h
    · exact (R1.bN a h).keep fun o e => at_ a o e
    · exact .of (by rw [h, upd_ne (Ne.symm hcq), upd_same]) h1
    · exact .of (by rw [h, upd_same]) h2
def without (H : Hp) (c q : Addr) : Hp := fun b => if b = c ∨ b = q then none else H b
/-- .. and let go -/
theorem KPost.called (R : Rep K B ρ env st σ H) (hc : H c = none) (hq : H q = none) (hcq : q ≠ c) {o1 o2 : HO} (P : KPost K (fun x => Outer B env σ x ∨ x = c ∨ x = q) q ρ (upd (upd H c o1) q o2) ρ' st' H') : EPost K B ρ env σ H ρ' st' (without H' c q) := by
  have at_ : ∀ a o, H a = some o → upd (upd H c o1) q o2 a = some o ∧ a ≠ c ∧ a ≠ q := fun a o e => by
    rw [upd_ne (ne_of_none e hq), upd_ne (ne_of_none e hc)]
    exact ⟨e, ne_of_none e hc, ne_of_none e hq⟩
  have wo : ∀ a, a ≠ c → a ≠ q → without H' c q a = H' a := fun a h1 h2 => if_neg fun z => z.elim h1 h2
  have rne : ∀ a, a ∈ ρ' → a ≠ c ∧ a ≠ q := fun a h => ⟨fun z => P.rep.rB a h (.inr (.inl z)), fun z => P.rep.rB a h (.inr (.inr z))⟩
  have tr : ∀ a, H a ≠ none → without H' c q a ≠ none := fun a h => by
    cases e : H a with
    | none => exact absurd e h
    | some o =>
      obtain ⟨h1, h2, h3⟩ := at_ a o e
      rw [wo a h2 h3]
      exact P.tr a (by rw [h1]; exact fun z => by cases z)
  refine .called R ⟨⟨rfl, P.rep.lenC, P.rep.nd, fun n cl a h1 h2 => ?_, fun a h => ?_, fun a h z => P.rep.rB a h (.inl z), fun a h => ?_, fun i e h => by simp at h, fun a h => (no_own h).elim, fun i j l l' a h => by simp at h⟩, P.pre, fun a o e n => ?_, tr, fun a h n => ?_⟩
  · have hm := rne a (List.mem_of_getElem? h2)
    refine (P.rep.cell n cl a h1 h2).carry (fun a o e n => ?_) (fun a o e n => by rw [wo a (fun z => n (.inl (.inr (.inl z)))) (fun z => n (.inl (.inr (.inr z))))]; exact e) List.prefix_rfl fun o e => by rw [wo a hm.1 hm.2]; exact e
    rcases n with n | n | n
    · exact .inl (.inl n)
    · exact .inr (.inl n)
    · exact .inr (.inr n)
  · rw [wo a (rne a h).1 (rne a h).2]
    exact P.rep.rT a h
  · refine (R.call.bN a h).keep fun o e => ?_
    obtain ⟨h1, h2, h3⟩ := at_ a o e
    rw [wo a h2 h3]
    exact P.kp a o h1 (fun z => R.call.rB a z h) h3
  · obtain ⟨h1, h2, h3⟩ := at_ a o e
    rw [wo a h2 h3]
    exact P.kp a o h1 n h3
  · have g := P.fr a h n
    have hm := rne a h
    rw [upd_ne hm.2, upd_ne hm.1] at g
    exact g
end
section
variable {K : PySem.W.Frag} {N : Addr → Prop} {ρ : List Addr} {H : Hp}
end
section
variable {X : Cx} {W : WX} {e : Expr} {fe : EF PV} {p p2 pos kpos : Pos} {k j : Nat} {x px : Str} {F : Fn}
end
end PL
/-! PMm: dicts of ints in the store; a def's own things of the store let go. -/
namespace PL
variable {Zg : Prop}
open PySem PySem.Spec L2
section
variable {K : PySem.W.Frag} {B : Addr → Prop} {ρ ρ' : List Addr} {env : Env} {st st' : Sto} {σ : L2.St} {H H' : Hp} {N : Addr → Prop}
/-! ### tables by int keys -/
def valD : List (Int × PV) → Int → Option PV
  | [], _ => none
  | kv :: r, i => if kv.1 = i then some kv.2 else valD r i
def setD : List (Int × PV) → Int → PV → List (Int × PV)
  | [], _, _ => []
  | kv :: r, i, p => (if kv.1 = i then (kv.1, p) else kv) :: setD r i p
def putD (kvs : List (Int × PV)) (i : Int) (p : PV) : List (Int × PV) := if (valD kvs i).isSome = true then setD kvs i p else kvs ++ [(i, p)]
def kInl (kvs : List (Int × PV)) : List Key := kvs.map fun kv => (Sum.inl kv.1 : Key)
def dkAt (st : Sto) : PV → Option (Nat × List (Int × PV))
  | .gl n => match st[n]? with
    | some (.dk l) => some (n, l)
    | _ => none
  | _ => none
theorem Rep.dk (R : Rep K B ρ env st σ H) {p : PV} {u : V} {n : Nat} {l : List (Int × PV)} (r : RV K (Excl B ρ env σ) ρ H p u) (h : dkAt st p = some (n, l)) :
    p = .gl n ∧ st[n]? = some (.dk l) ∧ ∃ a us, u = .ref a ∧ ρ[n]? = some a ∧ H a = some (.dK us) ∧ us.map (·.1) = kInl l ∧ us.length ≤ LINE ∧ RVs K (Excl B ρ env σ) ρ H (l.map (·.2)) (us.map (·.2)) := by
  cases p with
  | gl m =>
    have h2 : (match st[m]? with
      | some (.dk l) => some (m, l)
      | _ => none) = some (n, l) := h
    cases e : st[m]? with
    | none => rw [e] at h2; cases h2
    | some c =>
      rw [e] at h2
      cases c with
      | dk l' =>
        cases h2
        obtain ⟨a, rfl, hn⟩ := rv_gl r
        obtain ⟨us, q1, q2, q3, q4⟩ := R.cell _ _ a e hn
        exact ⟨rfl, e, a, us, rfl, hn, q1, q2, q3, q4⟩
      | dead => cases h2
      | lst _ => cases h2
      | dt _ => cases h2
      | tbl _ _ => cases h2
      | ins _ _ _ => cases h2
  | _ => cases h
/-! ### a def's own things let go -/
theorem EPost.drop (R : Rep K B ρ env st σ H) (E : EPost K B ρ env σ H ρ' st' H') (hg : (st'.take st.length).all (glC st.length) = true) : EPost K B ρ env σ H ρ (st'.take st.length) H' := by
  have hl : st.length ≤ st'.length := by
    rw [← R.lenC, ← E.rep.lenC]
    exact E.pre.length_le
  have kk : ∀ a o, H a = some o → ¬ Excl B ρ env σ a → H' a = some o := fun a o e n => E.kp a o e fun z => n (.inr (.inl z))
  have lt : ∀ {n : Nat} {c : Cell}, (st'.take st.length)[n]? = some c → n < st.length ∧ st'[n]? = some c := fun {n c} h => by
    rw [List.getElem?_take] at h
    split at h
    · exact ⟨by assumption, h⟩
    · cases h
  have ex : ∀ a, Excl B ρ env σ a → Excl B ρ' env σ a := fun a n => by
    rcases n with n | n | n
    · exact .inl n
    · exact .inr (.inl (E.pre.subset n))
    · exact .inr (.inr n)
  refine ⟨⟨R.lenE, ?_, R.nd, fun n c a h1 h2 => ?_, fun a h => E.tr a (R.rT a h), R.rB, fun a h => (R.bN a h).keep fun o e => E.kp a o e fun z => R.rB a z h, fun i e h => ?_, R.oR, R.sep⟩, List.prefix_rfl, E.kp, E.tr, fun _ h n => absurd h n⟩
  · rw [R.lenC, List.length_take]
    omega
  · obtain ⟨l1, l2⟩ := lt h1
    obtain ⟨t, et⟩ := E.pre
    have q := E.rep.cell n c a l2 (by rw [← et, List.getElem?_append_left (by rw [R.lenC]; exact l1)]; exact h2)
    have gc := List.all_eq_true.mp hg c (List.mem_of_getElem? h1)
    exact CellOk.unpush E.pre (by rw [R.lenC]; exact gc) (q.carry (fun a _ _ n => ex a n) (fun _ _ e _ => e) List.prefix_rfl fun _ q => q)
  · have q := R.slot i e h
    cases e with
    | non => trivial
    | val p =>
      obtain ⟨v, q1, q2⟩ := q
      exact ⟨v, q1, RV.carry (fun _ _ _ z => z) kk List.prefix_rfl _ _ q2⟩
    | own l =>
      obtain ⟨a, xs, q0, q1, q2, q3⟩ := q
      exact ⟨a, xs, q0, E.kp a _ q1 (R.oR a ⟨i, l, h, q0⟩).1, q2, RVs.carry (fun _ _ _ z => z) kk List.prefix_rfl _ _ q3⟩
end
/-- behind a def its own things of the store are let go -/
def dropF (F : Fn) : Fn := fun xs st => match F xs st with
  | .ok v st' => if (st'.take st.length).all (glC st.length) = true ∧ glB st.length v = true then .ok v (st'.take st.length) else .stuck
  | .exc x st' => if (st'.take st.length).all (glC st.length) = true ∧ glBs st.length (x.fs.map (·.2)) = true then .exc x (st'.take st.length) else .stuck
  | .stuck => .stuck
theorem spF_drop {K : PySem.W.Frag} {n : Nat} {F : Fn} {vs : List V} {H : Hp} {Q : VK} {E : XK} (h : spF K n (dropF F) vs H Q E) : spF K n F vs H Q E := by
  obtain ⟨B, ρ, st, ps, R, r, hn, h⟩ := h
  refine ⟨B, ρ, st, ps, R, r, hn, ?_⟩
  unfold dropF at h
  have ex : ∀ {ρ' : List Addr}, ρ <+: ρ' → ∀ a, Excl B ρ [] ([] : L2.St) a → Excl B ρ' [] ([] : L2.St) a := fun pre a n => by
    rcases n with n | n | n
    · exact .inl n
    · exact .inr (.inl (pre.subset n))
    · exact .inr (.inr n)
  cases hF : F ps st with
  | stuck => rw [hF] at h; exact h.elim
  | ok v st' =>
    rw [hF] at h
    dsimp only at h
    split at h
    · rename_i hc
      intro ρ' H' E2 u ru
      exact h ρ H' (E2.drop R hc.1) u (RV.unpush E2.pre _ _ (by rw [R.lenC]; exact hc.2) (RV.carry (fun a _ _ n => ex E2.pre a n) (fun _ _ e _ => e) List.prefix_rfl _ _ ru))
    · exact h.elim
  | exc x st' =>
    rw [hF] at h
    dsimp only at h
    split at h
    · rename_i hc
      intro ρ' H' cls d E2 hx
      refine h ρ H' cls d (E2.drop R hc.1) ⟨hx.1, hx.2.imp id ?_⟩
      rintro ⟨dd, fvs, e0, e1, e2, en, e3, e4⟩
      exact ⟨dd, fvs, e0, e1, e2, fun z => en (ex E2.pre dd z), e3, RVs.unpush E2.pre _ _ (by rw [R.lenC]; exact hc.2) (RVs.carry (fun a _ _ n => ex E2.pre a n) (fun _ _ e _ => e) List.prefix_rfl _ _ e4)⟩
    · exact h.elim
theorem Cal.drop {P : Program} {w : World} {K : PySem.W.Frag} {mg : Str → Option Value} {base : Heap} {k : Nat} {x : Str} {ps : List Str} {F : Fn} (h : Cal Zg P w K mg base k x ps F) : Cal Zg P w K mg base k x ps (dropF F) := by
  obtain ⟨f, fd, c1, c2⟩ := h
  refine ⟨f, fd, ⟨fun vs H Q E s => c1.len vs H Q E (spF_drop s), fun A outer s H args us vs Q E h1 h2 h3 h4 h5 h6 => c1.run A outer s H args us vs Q E h1 h2 h3 h4 h5 (spF_drop h6)⟩, c2⟩
theorem FnG.drop {P : Program} {w : World} {K : PySem.W.Frag} {mg : Str → Option Value} {base : Heap} {k n : Nat} {f : Addr} {fd : FuncData} {ps : List Str} {F : Fn} (c1 : FnG Zg P w K mg base k f fd ps (spF K n F)) : FnG Zg P w K mg base k f fd ps (spF K n (dropF F)) :=
  ⟨fun vs H Q E s => c1.len vs H Q E (spF_drop s), fun A outer s H args us vs Q E h1 h2 h3 h4 h5 h6 => c1.run A outer s H args us vs Q E h1 h2 h3 h4 h5 (spF_drop h6)⟩
section
variable {X : Cx} {W : WX} {e : Expr} {fe : EF PV} {pos p p2 : Pos} {kpos : Pos} {px : Str}
end
/-! ### expressions -/
def eNewD : EF PV := fun _ st => .ok (.gl st.length) (st ++ [.dk []])
def eGetD2 (o k d : EF PV) : EF PV := fun e st => (o e st).bind fun p st => match dkAt st p with
  | some _ => (k e st).bind fun q st => (d e st).bind fun z st => match dkAt st p, q with
    | some (_, kvs), .int i => .ok ((valD kvs i).getD z) st
    | _, _ => .stuck
  | none => .stuck
def eAtD (o k : EF PV) : EF PV := fun e st => (o e st).bind fun p st => (k e st).bind fun q st => match dkAt st p, q with
  | some (_, kvs), .int i => (match valD kvs i with
    | some v => .ok v st
    | none => .stuck)
  | _, _ => .stuck
def sPutD (o k v : EF PV) : SF := fun e st => (v e st).toS e fun v st => (o e st).toS e fun p st => (k e st).toS e fun q st => match dkAt st p, q with
  | some (n, kvs), .int i => if kvs.length < LINE then .nx e (st.set n (.dk (putD kvs i v))) else .stuck
  | _, _ => .stuck
def lListD (o : EF PV) : EF (List PV) := fun e st => (o e st).bind fun p st => match dkAt st p with
  | some (_, kvs) => .ok (kvs.map fun kv => .int kv.1) st
  | none => .stuck
section
variable {X : Cx} {W : WX} {o k d v e : Expr} {fo fk fd fv : EF PV} {pos apos pos' p : Pos}
end
end PL
/-! PMn: own objects by their brackets. -/
namespace PL
variable {Zg : Prop}
open PySem PySem.Spec PyProof.Rows L2
/-- o[i], o an own object, by its method F -/
def eSubO (c0 : Str) (F : Fn) (fa fb : EF PV) : EF PV := fun e st => (fa e st).bind fun p st => (fb e st).bind fun q st => if isIns c0 st p = true then (F [p, q] st).noE else .stuck
section
variable {X : Cx} {W : WX} {a b : Expr} {fa fb : EF PV} {c0 : Str} {pos : Pos} {k j : Nat} {f : Addr} {ps : List Str} {F : Fn}
end
end PL
/-! PMp: tuples known to have no dict; dict(t) of such a tuple of pairs; a thing of the store let go behind an expression; lists in the store as arguments. -/
namespace PL
open PySem PySem.Spec PyProof.Rows L2
/-! ### a display -/
def eTupD (g : EF (List PV)) : EF PV := fun e st => (g e st).bind fun l st => if l.length ≤ LINE then .ok (.tud l) st else .stuck
section
variable {X : Cx} {W : WX} {e a b : Expr} {es : List Expr} {fe fa fb : EF PV} {g : EF (List PV)} {pos p : Pos} {t : TA}
end
/-! ### dict(t) -/
section
variable {X : Cx}
end
def pairsD : List PV → Option (List (Int × PV))
  | [] => some []
  | .tup [.int i, q] :: r => (pairsD r).map ((i, q) :: ·)
  | _ :: _ => none
def mergeD (acc : List (Int × PV)) (kvs : List (Int × PV)) : List (Int × PV) := kvs.foldl (fun acc kv => putD acc kv.1 kv.2) acc
def eDictP (f : EF PV) : EF PV := fun e st => (f e st).bind fun v st => match v with
  | .tud l => match pairsD l with
    | some kvs => .ok (.gl st.length) (st ++ [.dk (mergeD [] kvs)])
    | none => .stuck
  | _ => .stuck
section
variable {K : PySem.W.Frag} {N : Addr → Prop} {ρ : List Addr} {H : Hp}
end
section
variable {X : Cx} {W : WX} {e a b : Expr} {fe fa fb : EF PV} {pos p : Pos}
end
/-! ### the store as it was, behind an expression -/
def dropR {α : Type} (ok : Nat → α → Bool) (n : Nat) : RE α → RE α
  | .ok v st' => if (st'.take n).all (glC n) = true ∧ ok n v = true then .ok v (st'.take n) else .stuck
  | .exc x st' => if (st'.take n).all (glC n) = true ∧ glBs n (x.fs.map (·.2)) = true then .exc x (st'.take n) else .stuck
  | .stuck => .stuck
def dropE (f : EF PV) : EF PV := fun e st => dropR glB st.length (f e st)
def dropT (f : EF Bool) : EF Bool := fun e st => dropR (fun _ _ => true) st.length (f e st)
section
variable {X : Cx} {W : WX} {e a b : Expr} {f fa fb : EF PV} {ft : EF Bool} {pos : Pos}
/-! ### k in d -/
def tInD (fk fo : EF PV) : EF Bool := fun e st => (fk e st).bind fun q st => (fo e st).bind fun p st => match dkAt st p, q with
  | some (_, kvs), .int i => .ok (valD kvs i).isSome st
  | _, _ => .stuck
end
/-! ### a list in the store, as an argument -/
def eMaxG (f : EF PV) : EF PV := fun e st => (f e st).bind fun p st => match lstAt st p with
  | some (_, l) => (match (intsOf l).bind maxL with
    | some m => .ok (.int m) st
    | none => .stuck)
  | none => .stuck
def eOpG (k : PV → PV → Option PV) (fa fb : EF PV) : EF PV := fun e st => (fa e st).bind fun p st => (fb e st).bind fun q st => match lstAt st p with
  | some (_, l) => .of (k (.lst l) q) st
  | none => .stuck
section
variable {X : Cx} {W : WX} {e a b : Expr} {fe fa fb : EF PV} {pos : Pos}
end
end PL
/-! PMq: sorted(set(l)), l a list of ints. -/
namespace PL
open PySem PySem.Spec PyProof.Rows L2
section
variable {P : Program} {w : World} {A : Around} {E : Value → Shared → Prop} {s : Shared} {S l : Addr} {items : Array Value} {ns : List Int}
end
/-! ### sorted(set(l)) -/
section
variable {X : Cx} {W : WX} {e : Expr} {fe : EF PV} {p p2 pos pos2 : Pos} {j : Nat}
end
end PL
/-! PMr: a tuple times n. -/
namespace PL
open PySem PySem.Spec PyProof.Rows L2
section
variable {X : Cx}
end
end PL
/-! PMs: for, in a generator's body. -/
namespace PL
open PySem PySem.Spec PyProof.Rows L2
section
variable {prog : Program} {w : World} {A : Around} {R : GenEnd} {Y : Protocol} {n : Nat} {s₀ : Shared} {fs : List Frame} {s : Shared} {env : PySem.Env}
end
section
variable {X : Cx}
end
end PL
/-! PMt: a generator's body as a plain function: what it hands out. -/
namespace PL
open PySem PySem.Spec PyProof.Rows L2
/-- behind a statement of a generator; the list: all that is out -/
inductive RY where
  | nx (e : Env) (st : Sto) (l : List PV)
  | rt (v : PV) (st : Sto) (l : List PV)
  | bk (e : Env) (st : Sto) (l : List PV)
  | ct (e : Env) (st : Sto) (l : List PV)
  | exc (x : Ex) (e : Env) (st : Sto)
  | stuck
abbrev YF := Env → Sto → List PV → RY
def RS.toY (r : RS) (l : List PV) : RY := match r with
  | .nx e st => .nx e st l
  | .rt v st => .rt v st l
  | .bk e st => .bk e st l
  | .ct e st => .ct e st l
  | .exc x e st => .exc x e st
  | .stuck => .stuck
def RE.toY {α : Type} (r : RE α) (e : Env) (f : α → Sto → RY) : RY := match r with
  | .ok a st => f a st
  | .exc x st => .exc x e st
  | .stuck => .stuck
section
variable {K : PySem.W.Frag} {W : WX} {B : Addr → Prop} {ρ ρ1 : List Addr} {env env1 : Env} {st st1 : Sto} {σ σ1 : L2.St} {H H1 : Hp} {D : GEnds}
def YOk (K : PySem.W.Frag) (W : WX) (B : Addr → Prop) (ρ : List Addr) (env : Env) (σ : L2.St) (H : Hp) (r : RY) (D : GEnds) : Prop := match r with
  | .nx e' st' l => ∀ ρ' σ' H' ys, Post K B ρ env σ H ρ' e' st' σ' H' → RVs K (Excl B ρ' e' σ') ρ' H' l ys → D.nx ys σ' H'
  | .bk e' st' l => ∀ ρ' σ' H' ys, Post K B ρ env σ H ρ' e' st' σ' H' → RVs K (Excl B ρ' e' σ') ρ' H' l ys → D.bk ys σ' H'
  | .ct e' st' l => ∀ ρ' σ' H' ys, Post K B ρ env σ H ρ' e' st' σ' H' → RVs K (Excl B ρ' e' σ') ρ' H' l ys → D.ct ys σ' H'
  | .rt v st' l => ∀ ρ' e' σ' H' u ys, Post K B ρ env σ H ρ' e' st' σ' H' → RV K (Excl B ρ' [] []) ρ' H' v u → RVs K (Excl B ρ' e' σ') ρ' H' l ys → D.rt ys u H'
  | .exc x e' st' => ∀ ρ' σ' H' cls d, Post K B ρ env σ H ρ' e' st' σ' H' → ExR K (Excl B ρ' e' σ') ρ' H' x cls d → W cls d σ' H'
  | .stuck => False
theorem YOk.shift {r : RY} (P : Post K B ρ env σ H ρ1 env1 st1 σ1 H1) (h : YOk K W B ρ env σ H r D) : YOk K W B ρ1 env1 σ1 H1 r D := by
  cases r with
  | nx e st l => exact fun ρ' σ' H' ys P2 => h ρ' σ' H' ys (P.trans P2)
  | bk e st l => exact fun ρ' σ' H' ys P2 => h ρ' σ' H' ys (P.trans P2)
  | ct e st l => exact fun ρ' σ' H' ys P2 => h ρ' σ' H' ys (P.trans P2)
  | rt v st l => exact fun ρ' e' σ' H' u ys P2 => h ρ' e' σ' H' u ys (P.trans P2)
  | exc x e st => exact fun ρ' σ' H' cls d P2 => h ρ' σ' H' cls d (P.trans P2)
  | stuck => exact h
theorem YOk.toY {α : Type} {r : RE α} {f : α → Sto → RY} (h : YOk K W B ρ env σ H (r.toY env f) D) : ROk K W B ρ env σ H r fun a ρ' st' H' => YOk K W B ρ' env σ H' (f a st') D := by
  cases r with
  | ok a st' => exact fun ρ' H' E => YOk.shift E.post h
  | exc x st' => exact fun ρ' H' cls d E => h ρ' σ H' cls d E.post
  | stuck => exact h
theorem YOk.plain {r : RS} {l : List PV} {ys : List V} (rl : RVs K (Excl B ρ env σ) ρ H l ys) (h : YOk K W B ρ env σ H (r.toY l) D) : SOk K W B ρ env σ H r (D.at ys) := by
  cases r with
  | nx e st => exact fun ρ' σ' H' P => h ρ' σ' H' ys P (P.rvs rl)
  | bk e st => exact fun ρ' σ' H' P => h ρ' σ' H' ys P (P.rvs rl)
  | ct e st => exact fun ρ' σ' H' P => h ρ' σ' H' ys P (P.rvs rl)
  | rt v st => exact fun ρ' e' σ' H' u P ru => h ρ' e' σ' H' u ys P ru (P.rvs rl)
  | exc x e st => exact h
  | stuck => exact h
end
section
variable {X : Cx} {W : WX} {s : Stmt} {rest body : List Stmt} {tg iter e : Expr} {f g t : YF} {fp : SF} {fe : EF PV} {it : EF (List PV)} {b : BF} {vs : List Nat} {pos yp : Pos}
end
end PL
/-! PMu: generator defs; list(f(..)). -/
namespace PL
open PySem PySem.Spec PyProof.Rows L2
abbrev GenF := List PV → Sto → RE (List PV)
section
variable {K : PySem.W.Frag} {B : Addr → Prop} {ρ : List Addr} {st : Sto} {H : Hp}
end
section
variable {P : Program} {w : World} {K : PySem.W.Frag} {mg : Str → Option Value} {base : Heap}
end
section
variable {X : Cx} {W : WX} {k j : Nat} {x : Str} {ps : List Str} {F : GenF} {p p2 pos pos' : Pos} {e : Expr} {es : List Expr} {g : EF (List PV)}
end
end PL
/-! PMv: in, not in, of nested data in a tuple. -/
namespace PL
open PySem PySem.Spec PyProof.Rows L2
section
variable {X : Cx}
end
end PL
/-! PNa: exceptions of simple classes are raised. -/
namespace PL
variable {Zg : Prop}
open PySem PySem.Spec PyProof.Rows L2
/-- an own exception class over ValueError, without own __init__ -/
structure ExcS (K : PySem.W.Frag) (c : Str) : Prop where
  ex : PySem.W.excIn K (He.ga K c) veB "ValueError.__new__" = true
  kp : PySem.W.keepIn K (.ref (He.ga K c)) = true
  sb : PySem.W.subIn K (.ref (He.ga K c)) (.type "BaseException") = some true
  ty : PySem.W.typeIn K (.ref (He.ga K c)) = some (.type "type")
section
variable {X : Cx} {W : WX} {c m : Str} {j : Nat} {p p2 pos pos' : Pos}
end
end PL
/-! PNb: count, index of flat values; an exception that is handled: isinstance, its fields. -/
namespace PL
open PySem PySem.Spec PyProof.Rows L2
/-! ### l.count(x), l.index(x) -/
section
variable {K : PySem.W.Frag} {N : Addr → Prop} {ρ : List Addr} {H : Hp}
end
section
variable {K : PySem.W.Frag} {N : Addr → Prop} {ρ : List Addr} {H : Hp}
end
section
variable {X : Cx} {W : WX} {o k : Expr} {fo fe : EF PV} {pos apos : Pos}
end
/-! ### the exception that is handled -/
theorem kit_exc {K : PySem.W.Frag} {x D : Addr} {ox : Obj} {od : Option Obj} (C : ExcC K D) : PySem.W.KitX K (.ref x) (.ref D) (fun h => PySem.W.InstAt h x ox D od) := by
  obtain ⟨cd, hcd, hdd⟩ := PySem.W.any_some C.hd
  obtain ⟨oD, hoD, hdata⟩ : ∃ oD : Obj, K.lookup D = some oD ∧ oD.data = .cls cd := by
    unfold PySem.W.clsIn at hcd
    split at hcd
    · rename_i c' d' cd' sl' ho
      cases hcd
      exact ⟨_, ho, rfl⟩
    · cases hcd
  refine ⟨fun _ _ _ I => I.type, fun M h X _ A Q E s k q => ?_, fun h tp dd its n sl X htp => ?_, fun {prog w A E Q s} X I hq => ?_⟩
  · unfold isType loadHead
    refine wpAny_bind (wpAny_loadPart (k _ _ (X _ _ hoD)) ?_)
    rw [hdata]
    exact wpAny_pure q
  · refine Bool.eq_false_iff.mpr fun q => ?_
    have e : D = tp := Value.ref.inj (beq_iff_eq.mp q)
    subst e
    have z := (X _ _ hoD).symm.trans htp
    cases z
    cases hdata
  · have hf : PySem.W.findObj K D od "__class__" = some (.bind (.builtin "getset_descriptor.__get__") (.builtin "object.__class__")) := by
      unfold PySem.W.findObj
      rw [hcd, Option.bind_some, C.ha, Option.bind_some]
      simp [C.hn, C.ht]
    obtain ⟨hp, g, d, t, os⟩ := s
    have L0 := I.type (M := model prog w)
    have L1 := PySem.W.looks_findIn (M := model prog w) X C.hg
    have L2 := PySem.W.looks_findIn (M := model prog w) X C.hk
    have L3 := PySem.W.looks_find (M := model prog w) X I hf
    have sub : PySem.W.Looks (model prog w) hp (isInstance (.ref x) (.type "BaseException")) true := L0.andThen (PySem.W.looks_subIn X C.hs)
    have n2 : (Value.builtin "BaseException.__getattribute__" == Value.builtin "object.__getattribute__") = false := by decide +kernel
    unfold getAttr? getAttrBy? getAttrBy
    refine wpAny_bind (wpAny_mkText (wpAny_bind (wpAny_attempt (wpAny_holding (wpAny_bind (L0.at (wpAny_bind (L1.at ?_))))))))
    show wpAny _ _ (if (onTheHeap (Value.ref D) && Value.builtin "BaseException.__getattribute__" == Value.builtin "object.__getattribute__") = true then _ else _) _ _ _
    rw [show (onTheHeap (Value.ref D) && Value.builtin "BaseException.__getattribute__" == Value.builtin "object.__getattribute__") = false by rw [n2]; rfl, if_neg Bool.false_ne_true]
    unfold getAttrByItsOwn hookBefore
    refine wpAny_bind ?_
    rw [if_pos (show onTheHeap (Value.ref D) = true from rfl)]
    refine L2.at (wpAny_bind (wpAny_attempt (wpAny_holding ?_)))
    unfold callGetattribute
    rw [show (false && onTheHeap (Value.builtin "BaseException.__getattribute__")) = false from rfl, if_neg Bool.false_ne_true]
    unfold boundAndCalled
    rw [PySem.F.excAttr_ValueError.ga.bind (.ref x)]
    refine wpAny_bind (wpAny_pure ?_)
    show wpAny _ _ (call (.builtin "BaseException.__getattribute__") [.ref x, .str "__class__" t]) _ _ _
    refine wpAny_call (codeAny_call_builtin PySem.F.excAttr_ValueError.ga.plain PySem.F.entry_bexc_ga ?_)
    refine @PySem.W.check_slot (model prog w) _ _ ⟨hp, g, d, t + 1, os⟩ "BaseException.__getattribute__" "BaseException" "__getattribute__" (.ref x) [.str "__class__" t] [] _ (by decide +kernel) (by decide +kernel) sub (PySem.F.args_bexc_ga (.ref x) (.str "__class__" t)) ?_
    unfold Builtin.«object.__getattribute__»
    refine wpAny_bind (wpAny_of_eq (a := ((Value.ref x : Value), [Value.str "__class__" t])) (by first | rfl | (simp only [slotArgs]; rfl)) ?_)
    refine wpAny_bind (wpAny_pure (wpAny_bind (L0.at (wpAny_bind (L3.at ?_)))))
    show wpAny _ _ (holding [Value.builtin "object.__class__"] (call (.builtin "getset_descriptor.__get__") [.builtin "object.__class__", .ref x, .ref D]) >>= ret) _ _ _
    refine wpAny_bind (wpAny_holding (wpAny_call (PySem.W.class_get (s := ⟨hp, g, d, t + 1, os⟩) (ox := ox) (od := od) X I C.hm ?_)))
    refine wpAny_pure ?_
    show wpAny _ _ (handedOut (.ref D)) _ _ _
    rw [PySem.W.handedOut_of (v := .ref D) rfl]
    first
      | exact wpAny_pure (wpAny_pure hq)
      | exact wpAny_pure hq
      | exact wpAny_pure (wpAny_bind (wpAny_pure (wpAny_pure hq)))
/-- in X the exception at a0 is handled: its class c0, its dict d0 if it has one -/
def HotX (X : Cx) (a0 d0 : Nat) (c0 : Str) (hasd : Bool) : Prop := ∃ oe : Obj, (a0, oe) ∈ X.pn ∧ Zc (.ref (He.ga X.K c0)) (if hasd = true then some d0 else none) oe ∧ ∃ vs, oe.data = .fields vs
/-- the exception is the one that is handled -/
def isHot (a0 d0 : Nat) (c0 : Str) (hasd : Bool) : PV → Bool
  | .exn a d c ns l => decide (a = a0) && decide (d = d0) && decide (c = c0) && (ns.isEmpty == !hasd) && (l.isEmpty == !hasd)
  | _ => false
theorem hot_at {X : Cx} {pins : List (Addr × Obj)} {σ : L2.St} {H : Hp} {s : Shared} {N : Addr → Prop} {ρ : List Addr} {a0 d0 : Nat} {c0 : Str} {hasd : Bool} {p : PV} {v : V} (I : Inv X pins σ H s) (hX : HotX X a0 d0 c0 hasd) (r : RV X.K N ρ H p v) (h : isHot a0 d0 c0 hasd p = true) :
    v = .ref a0 ∧ ∃ oe od, PySem.W.InstAt s.heap a0 oe (He.ga X.K c0) od := by
  cases p with
  | exn a d c ns l =>
    unfold isHot at h
    simp only [Bool.and_eq_true, decide_eq_true_eq, beq_iff_eq] at h
    obtain ⟨⟨⟨⟨rfl, rfl⟩, rfl⟩, hn⟩, hl⟩ := h
    obtain ⟨e, f⟩ := rv_exn r
    obtain ⟨oe, hp, hz, vs, hv⟩ := hX
    obtain ⟨hget, _⟩ := I.pin (a, oe) (List.mem_append.mpr (.inl hp))
    refine ⟨e, oe, ?_⟩
    obtain ⟨h1, h2⟩ := hz
    have nc : PySem.W.notCls oe := by unfold PySem.W.notCls; rw [hv] <;> rfl
    cases hasd with
    | false =>
      refine ⟨none, hget, h1, nc, ?_⟩
      rw [h2]
      trivial
    | true =>
      rcases f with ⟨f1, _⟩ | ⟨ws, f1, _, _, _⟩
      · subst f1
        cases hn
      · obtain ⟨mA, ⟨o, es, ep, ho, _⟩, _⟩ := I.hok d _ f1
        refine ⟨some o, hget, h1, nc, ?_⟩
        rw [h2]
        exact ho
  | _ => cases h
/-- isinstance(e, C): e the exception that is handled -/
def eIsX (a0 d0 : Nat) (c0 : Str) (hasd b : Bool) (f : EF PV) : EF PV := fun e st => (f e st).bind fun p st => if isHot a0 d0 c0 hasd p = true then .ok (.bl b) st else .stuck
/-- what isinstance asks in X -/
theorem call_isX {X : Cx} {a0 d0 : Nat} {c0 : Str} {hasd : Bool} (C : ExcC X.K (He.ga X.K c0)) : CallR X (.builtin "isinstance") (fun xs H Q => ∃ (c : V) (cv : Value) (b : Bool) (N : Addr → Prop) (ρ : List Addr) (p : PV) (v : V), HotX X a0 d0 c0 hasd ∧ xs = [v, c] ∧ (∀ u, RelV c u → u = cv) ∧ PySem.W.kitOne X.K (.ref (He.ga X.K c0)) cv = some b ∧ RV X.K N ρ H p v ∧ isHot a0 d0 c0 hasd p = true ∧ Q (.bl b) H) := by
  intro pins s σ H xs us Q I r h
  obtain ⟨c, cv, b, N, ρ, p, v, hX, rfl, hcv, e, rv, hh, q⟩ := h
  obtain ⟨rfl, oe, od, J⟩ := hot_at I hX rv hh
  cases r with
  | cons rx rr =>
    cases rr with
    | cons rt rr =>
      cases rr
      cases rx
      have ec := hcv _ rt
      subst ec
      exact PySem.W.kia_one (kit_exc C) I.kIn J e (fun z => nomatch z) fun tk => ⟨.bl b, H, I.kept (t' := tk) fun _ _ z => z, rfl, q⟩
section
variable {X : Cx} {W : WX} {a : Expr} {fa : EF PV} {c0 c1 : Str} {a0 d0 : Nat} {hasd b : Bool} {p p2 pos : Pos}
theorem m_isX (hX : HotX X a0 d0 c0 hasd) (C : ExcC X.K (He.ga X.K c0)) (hb : PySem.W.kitOne X.K (.ref (He.ga X.K c0)) (.ref (He.ga X.K c1)) = some b) (ha : ME X W a fa) (hm : X.mg "isinstance" = none) (hm2 : X.mg c1 = some (.ref (He.ga X.K c1))) (hg : Gl X "isinstance" := by rfl) (hg2 : Gl X c1 := by rfl) (hd : (c1 == ("__debug__" : Str)) = false := by decide)
    (h1 : starEach [a, .Name c1 p2] X.env = (false, eval a X.env) :: starEach [.Name c1 p2] X.env := by rfl) (h2 : starEach [.Name c1 p2] X.env = (false, eval (.Name c1 p2) X.env) :: starEach [] X.env := by rfl)
    (hpl : (backTo pos (starEach [.Name c1 p2] X.env)).any (·.1) = false := by rfl) : ME X W (.Call (.Name "isinstance" p) [a, .Name c1 p2] [] pos) (eIsX a0 d0 c0 hasd b fa) := by
  obtain ⟨ta, pa, qa⟩ := ha
  refine ⟨_, pe_callB (call_isX (a0 := a0) (d0 := d0) (hasd := hasd) C) hg hm (by decide +kernel) (pa_cons pa (pa_cons (pe_glob (v := .ref (He.ga X.K c1)) hg2 hm2 rfl hd) pa_nil h2) h1) (by decide) (by decide) h1 hpl, fun B ρ env st σ H Q R h => ?_⟩
  refine qa B ρ env st σ H _ R (ROk.mono (ROk.bind h) fun q ρ1 st1 H1 E1 h1 x rx => ?_)
  by_cases hq : isHot a0 d0 c0 hasd q = true
  · rw [if_pos hq] at h1
    exact ⟨.ref (He.ga X.K c1), .ref (He.ga X.K c1), b, _, ρ1, q, x, hX, rfl, fun u r => r, hb, rx, hq, h1 ρ1 H1 (.refl E1.rep) _ mk_bl⟩
  · rw [if_neg hq] at h1
    exact h1.elim
/-- isinstance(e, ValueError) -/
theorem m_isVE (hX : HotX X a0 d0 c0 hasd) (C : ExcC X.K (He.ga X.K c0)) (hb : PySem.W.kitOne X.K (.ref (He.ga X.K c0)) (.type "ValueError") = some b) (ha : ME X W a fa) (hm : X.mg "isinstance" = none) (hm2 : X.mg "ValueError" = none) (hg : Gl X "isinstance" := by rfl) (hg2 : Gl X "ValueError" := by rfl)
    (h1 : starEach [a, .Name "ValueError" p2] X.env = (false, eval a X.env) :: starEach [.Name "ValueError" p2] X.env := by rfl) (h2 : starEach [.Name "ValueError" p2] X.env = (false, eval (.Name "ValueError" p2) X.env) :: starEach [] X.env := by rfl)
    (hpl : (backTo pos (starEach [.Name "ValueError" p2] X.env)).any (·.1) = false := by rfl) : ME X W (.Call (.Name "isinstance" p) [a, .Name "ValueError" p2] [] pos) (eIsX a0 d0 c0 hasd b fa) := by
  obtain ⟨ta, pa, qa⟩ := ha
  refine ⟨_, pe_callB (call_isX (a0 := a0) (d0 := d0) (hasd := hasd) C) hg hm (by decide +kernel) (pa_cons pa (pa_cons (pe_bltn (v := .ty "ValueError") hg2 hm2 PyProof.Rows.Boot.«ValueError» rfl (by decide) (by decide)) pa_nil h2) h1) (by decide) (by decide) h1 hpl, fun B ρ env st σ H Q R h => ?_⟩
  refine qa B ρ env st σ H _ R (ROk.mono (ROk.bind h) fun q ρ1 st1 H1 E1 h1 x rx => ?_)
  by_cases hq : isHot a0 d0 c0 hasd q = true
  · rw [if_pos hq] at h1
    exact ⟨.ty "ValueError", .type "ValueError", b, _, ρ1, q, x, hX, rfl, fun u r => r, hb, rx, hq, h1 ρ1 H1 (.refl E1.rep) _ mk_bl⟩
  · rw [if_neg hq] at h1
    exact h1.elim
end
end PL
/-! PNc: a lambda is made, and handed to a def that calls it. -/
namespace PL
variable {Zg : Prop}
open PySem PySem.Spec PyProof.Rows L2 LamX
section
variable {X : Cx} {pins : List (Addr × Obj)} {σ : L2.St} {H : Hp} {s : Shared}
end
end PL
/-! PNd: a def that calls the lambda it got, and says what comes: a text, or a word of the exception. -/
namespace PL
variable {Zg : Prop}
open PySem PySem.Spec PyProof.Rows L2 LamX
/-- an exception is taken whose wish is known only of as many slots as there are -/
theorem Takes.len {X : Cx} {W W' : WX} (t : Takes X W) (h : ∀ c d σ H, σ.length = X.N.length → W' c d σ H → W c d σ H) : Takes X W' := fun u s' ⟨a, B, sI, pins, σ, H, cls, d, e, I, nb, up, sky, na, os, ag, w⟩ =>
  t u s' ⟨a, B, sI, pins, σ, H, cls, d, e, I, nb, up, sky, na, os, ag, h _ _ _ _ I.len w⟩
section
variable {K : PySem.W.Frag} {B : Addr → Prop} {ρ : List Addr} {st : Sto} {H : Hp}
end
def hasd (y : Ex) : Bool := !y.fs.isEmpty
theorem SOk.ends {K : PySem.W.Frag} {W : WX} {B : Addr → Prop} {ρ : List Addr} {env : Env} {σ : L2.St} {H : Hp} {r : RS} {D : Ends} {Q : VK} (h : SOk K W B ρ env σ H r { nx := fun _ _ => False, rt := Q }) (hD : D.rt = Q) : SOk K W B ρ env σ H r D := by
  subst hD
  cases r with
  | nx e st => exact fun ρ' σ' H' P => (h ρ' σ' H' P).elim
  | bk e st => exact fun ρ' σ' H' P => (show False from h ρ' σ' H' P).elim
  | ct e st => exact fun ρ' σ' H' P => (show False from h ρ' σ' H' P).elim
  | rt v st => exact h
  | exc x e st => exact h
  | stuck => exact h
end PL
/-! PNe: said(lambda: ..) as a plain function. -/
namespace PL
variable {Zg : Prop}
open PySem PySem.Spec PyProof.Rows L2 LamX
/-- the def x has its code at c, its table at P -/
structure TabF (K : PySem.W.Frag) (base : Heap) (mg : Str → Option Value) (x : Str) (c P : Addr) : Prop where
  ti : PySem.W.tabIn K x = some (c, P)
  tb : TabB base mg c P
section
variable {K : PySem.W.Frag} {B : Addr → Prop} {ρ : List Addr} {env : Env} {st : Sto} {σ : L2.St} {H H1 : Hp}
end
section
variable {X : Cx} {W : WX}
end
end PL
/-! PNf: defs that are called while an exception is handled, and look at it. -/
namespace PL
variable {Zg : Prop}
open PySem PySem.Spec PyProof.Rows L2 LamX L2H
/-- a def's promise there: it computes F of the exception that is handled -/
structure FnX (P : Program) (w : World) (K : PySem.W.Frag) (mg : Str → Option Value) (base : Heap) (cs : List Str) (k : Nat) (f : Addr) (fd : FuncData) (ps : List Str) (F : Nat → Nat → Str → Bool → Fn) : Prop where
  run : ∀ (A : Around) (outer : List PySem.Env) (s : Shared) (H : Hp) (args : Args) (us : List Value) (vs : List V) (Q : VK) (E : XK) (a0 d0 : Nat) (c0 : Str) (hb : Bool) (oe : Obj), RoomH k A → PinOk outer H s (a0, oe) → Zc (.ref (He.ga K c0)) (if hb = true then some d0 else none) oe → (∃ ws, oe.data = .fields ws) → c0 ∈ cs →
    Env0 P w K mg base A outer s H → BindsTo s fd args (ps.zip us) → Vals vs us → spF K ps.length (F a0 d0 c0 hb) vs H Q E → codeAny (model P w) A (.call (.ref f) args) (CR (L2.CX P w) outer P w H s Q E) s
section
variable {X : Cx} {W : WX} {k : Nat} {x : Str} {ps : List Str} {F : Nat → Nat → Str → Bool → Fn} {p pos : Pos} {e : Expr} {es : List Expr} {g : EF (List PV)} {a0 d0 : Nat} {c0 : Str} {hb : Bool} {cs : List Str}
end
end PL
/-! PNg: an own exception whose __init__ says super().__init__(e), then keeps its fields. -/
namespace PL
variable {Zg : Prop}
open PySem PySem.Spec PyProof.Rows L2
/-- an __init__ that closes over its class -/
structure InitC (K : PySem.W.Frag) (C : Addr) (file qual : Str) (params : Arguments) (body : List Stmt) (scope : Scope) (f cc : Addr) (fd : FuncData) : Prop where
  lk : ∃ oc od osl, K.lookup f = some ⟨oc, od, .func fd, osl⟩
  fdE : ∃ nm kV dc pm an ct cd, fd = { PySem.W.fnOf nm qual params body scope .none kV dc pm an cd ct with closure := [(("__class__" : Str), cc)] }
  cd : PySem.W.codeIn K fd.code qual = true
  code : ∃ c oc vs tf, fd.code = .ref c ∧ K.lookup c = some oc ∧ oc.data = .fields vs ∧ vs[2]? = some (.str file tf)
  cell : ∃ o, K.lookup cc = some o ∧ o.data = .cell (some (.ref C))
  cls : OexC K C
  cda : ∃ cd, PySem.W.clsIn K C = some cd
  sub : PySem.W.subIn K (.ref C) (.ref C) = some true
  subV : PySem.W.subIn K (.ref C) (.type "ValueError") = some true
  sup : PySem.W.ks_superIn K C C "__init__" = some (some (.builtin "ValueError.__init__"))
  opq : PySem.W.nsIn K cStatics "thirdparty.any" = some none
section
variable {P : Program} {w : World} {K : PySem.W.Frag} {mg : Str → Option Value} {base : Heap} {C f cc : Addr} {file qual : Str} {params : Arguments} {body : List Stmt} {scope : Scope} {fd : FuncData} {N ps : List Str} {A : Around} {outer : List PySem.Env} {s : Shared} {H : Hp}
end
end PL
/-! PNh: super().__init__(e), then the fields: the whole __init__ of an own exception. -/
namespace PL
variable {Zg : Prop}
open PySem PySem.Spec PyProof.Rows L2
/-- how its names stand -/
structure InitN (N ps : List Str) (scope : Scope) : Prop where
  nd : N.Nodup
  pre : N.take ps.length = ps
  par : ∀ x ∈ ps, scope.names.lookup x = some .local
  nocell : ∀ y ∈ scope.names, y.2 ≠ .cell
  free : ∀ y ∈ scope.names, y.2 = .free → y.1 = "__class__"
  kind : scope.kind = .function
  co : scope.isCoroutine = false
  gen : scope.isGenerator = false
  ksu : scope.names.lookup ("super" : Str) = some .globalImplicit
  kcl : scope.names.lookup ("__class__" : Str) = some .free
section
variable {CX : CXT} {P : Program} {w : World} {K : PySem.W.Frag} {mg : Str → Option Value} {base : Heap} {k : Nat} {C f cc : Addr} {file qual : Str} {params : Arguments} {st0 : Stmt} {rest : List Stmt} {scope : Scope} {fd : FuncData} {N ps : List Str} {sp : Sp} {ar : Arg} {es : List Expr} {p0 p1 p2 p3 p4 : Pos} {e : Expr}
end
end PL
/-! PNi: own exceptions with fields are raised. -/
namespace PL
variable {Zg : Prop}
open PySem PySem.Spec PyProof.Rows L2
section
variable {X : Cx} {o : Expr} {f : Str} {pos : Pos}
end
/-- what such an __init__ promises -/
def spX (K : PySem.W.Frag) (C : Addr) (n : Nat) (names : List Str) (okv : List V → Prop) : Sp := fun vs H Q _ => vs.length = n + 1 ∧ ∃ a ws, vs = .ref a :: ws ∧ okv ws ∧ OexC K C ∧ (∀ f ∈ names, PySem.W.findIn K (.ref C) f = some none) ∧ H a = some (exo a C none) ∧
  ∀ H' d, (∀ b o, b ≠ a → H b = some o → H' b = some o) → H d = none → d ≠ a → H' a = some (exo a C (some d)) → H' d = some (exd d (names.zip ws).reverse) → Q .non H'
section
variable {CX : CXT} {P : Program} {w : World} {K : PySem.W.Frag} {mg : Str → Option Value} {base : Heap} {k : Nat} {C f cc : Addr} {file qual : Str} {params : Arguments} {scope : Scope} {fd : FuncData} {sp : Sp} {ar : Arg} {p0 p1 p2 p3 p4 q0 q1 q2 q3 q4 q5 q6 q7 q8 q9 : Pos} {m f1 f2 x1 x2 : Str} {j n1 n2 : Nat}
end
/-- no exception leaves such a call -/
def CX0 : CXT := fun _ _ _ _ _ _ => False
/-- an own exception with fields can be made -/
structure RaiF (P : Program) (w : World) (K : PySem.W.Frag) (mg : Str → Option Value) (base : Heap) (k : Nat) (c : Str) (names : List Str) (okv : List V → Prop) : Prop where
  fn : ∃ f fd ps, FnOk P w K mg base CX0 k f fd ps (spX K (He.ga K c) names.length names okv) ∧ Binds K fd ps [] ∧ PySem.W.findIn K (.ref (He.ga K c)) "__init__" = some (some (.ref f)) ∧ PySem.W.typeIn K (.ref f) = some (.type "function")
  cls : OexC K (He.ga K c)
  no : ∀ f ∈ names, PySem.W.findIn K (.ref (He.ga K c)) f = some none
section
variable {X : Cx} {W : WX} {c : Str} {names : List Str} {okv : List V → Prop} {okp : List PV → Bool} {k : Nat} {e : Expr} {es : List Expr} {g : EF (List PV)} {p pos pos' : Pos}
end
end PL
/-! PNj: the end of a law whose defs make lambdas. -/
namespace PL
variable {Zg : Prop}
open PySem PySem.Spec PyProof.Rows L2 LamX
section
variable {P : Program} {w : World} {K : PySem.W.Frag} {mg mb : Str → Option Value} {k : Nat} {fa a : Addr} {fd : FuncData} {x : Str} {sp : Sp} {s₁ : Shared} {vs : List Value} {ns : List Int} {cs : List (Addr × Addr)}
end
end PL
/-! PNk: the head's facts for exceptions and lambdas. -/
namespace PL
variable {Zg : Prop}
open PySem PySem.Spec PyProof.Rows L2 LamX
/-! ### what is looked at -/
section
variable {fs : List Chk} {fn fi : List He5.DefA} {K : PySem.W.Frag}
theorem SaysS.fact (c : SaysS fs fn fi K) (i : Nat) {f : Chk} (h : fs[i]? = some f := by rfl) : f K = true :=
  List.all_eq_true.mp (and_true2 (congrArg Prod.fst c)).1 f (List.mem_of_getElem? h)
theorem SaysS.lists (c : SaysS fs fn fi K) : fn.map (fun d => He5.fnA K (d.at_ K)) = fn.map He5.DefA.val ∧ fi.map (fun d => fnI K (d.at_ K)) = fi.map He5.DefA.val := by
  have e : mapL (fun d => He5.fnA K (d.at_ K)) fn ++ mapL (fun d => fnI K (d.at_ K)) fi = fn.map He5.DefA.val ++ fi.map He5.DefA.val := congrArg Prod.snd c
  rw [mapL_eq, mapL_eq] at e
  exact List.append_inj e (by simp)
theorem SaysS.def_ (c : SaysS fs fn fi K) (i : Nat) {d : He5.DefA} (h : fn[i]? = some d := by rfl) : ∃ fd, FunD K d.name d.qual d.params d.body d.scope (d.dvs K) (d.kws K) (d.at_ K) fd := by
  have c2 := (and_true2 (and_true2 (congrArg Prod.fst c)).2).1
  have e2 : (fn.map (fun d => He5.fnA K (d.at_ K)))[i]? = (fn.map He5.DefA.val)[i]? := by rw [c.lists.1]
  rw [List.getElem?_map, List.getElem?_map, h] at e2
  exact He5.DefA.funD (Option.some.inj e2) (List.all_eq_true.mp c2 d (List.mem_of_getElem? h))
end
/-! ### an exception's __init__ -/
/-- what is known of such a class, of its __init__ -/
structure ExI (K : PySem.W.Frag) (c file : Str) (names : List Str) : Prop where
  cls : OexC K (He.ga K c)
  fi : PySem.W.findIn K (.ref (He.ga K c)) "__init__" = some (some (.ref (initA K c)))
  ty : PySem.W.typeIn K (.ref (initA K c)) = some (.type "function")
  no : ∀ f ∈ names, PySem.W.findIn K (.ref (He.ga K c)) f = some none
  cda : ∃ cd, PySem.W.clsIn K (He.ga K c) = some cd
  sub : PySem.W.subIn K (.ref (He.ga K c)) (.ref (He.ga K c)) = some true
  subV : PySem.W.subIn K (.ref (He.ga K c)) (.type "ValueError") = some true
  sup : PySem.W.ks_superIn K (He.ga K c) (He.ga K c) "__init__" = some (some (.builtin "ValueError.__init__"))
  opq : PySem.W.nsIn K cStatics "thirdparty.any" = some none
  code : codeFileB K (initA K c) file = true
  cell : ∃ o, K.lookup (cloA K (initA K c)) = some o ∧ o.data = .cell (some (.ref (He.ga K c)))
end PL
/-! PNl: defs that make lambdas; what the head tells of caught exceptions. -/
namespace PL
variable {Zg : Prop}
open PySem PySem.Spec PyProof.Rows L2 LamX
section
variable {P : Program} {w : World} {K : PySem.W.Frag} {mg : Str → Option Value} {base : Heap}
end
/-! ### tables -/
/-! ### caught exceptions -/
/-- cs: the classes that are caught; ms: those that are asked for -/
structure ExcT (K : PySem.W.Frag) (cs ms : List Str) : Prop where
  ec : ∀ c ∈ cs, ExcC K (He.ga K c)
  xf : ∀ c ∈ cs, XfC K (He.ga K c)
  dm : ∀ c ∈ cs, PySem.W.exmOne K (.ref (He.ga K c)) (.ref (He.ga K "DealError")) = some true
  ve : ∀ c ∈ cs, PySem.W.kitOne K (.ref (He.ga K c)) (.type "ValueError") = some true
  kt : ∀ c ∈ cs, ∀ m ∈ ms, PySem.W.kitOne K (.ref (He.ga K c)) (.ref (He.ga K m)) = some (decide (c = m))
section
variable {X : Cx} {W : WX} {a0 d0 : Nat} {c0 : Str} {hasd : Bool} {a : Expr} {fa : EF PV} {cs ms : List Str}
/-- isinstance(e, m) -/
theorem x_is (hX : HotX X a0 d0 c0 hasd) (T : ExcT X.K cs ms) (h0 : c0 ∈ cs) {m : Str} {p p2 pos : Pos} (ha : ME X W a fa) (hm : X.mg "isinstance" = none) (hm2 : X.mg m = some (.ref (He.ga X.K m))) (h1 : m ∈ ms := by decide) (hg : Gl X "isinstance" := by rfl) (hg2 : Gl X m := by rfl) (hd : (m == ("__debug__" : Str)) = false := by decide)
    (hs : starEach [a, .Name m p2] X.env = (false, eval a X.env) :: starEach [.Name m p2] X.env := by rfl) (hs2 : starEach [.Name m p2] X.env = (false, eval (.Name m p2) X.env) :: starEach [] X.env := by rfl) :
    ME X W (.Call (.Name "isinstance" p) [a, .Name m p2] [] pos) (eIsX a0 d0 c0 hasd (decide (c0 = m)) fa) := m_isX hX (T.ec c0 h0) (T.kt c0 h0 m h1) ha hm hm2 hg hg2 hd hs hs2
theorem x_isV (hX : HotX X a0 d0 c0 hasd) (T : ExcT X.K cs ms) (h0 : c0 ∈ cs) {p p2 pos : Pos} (ha : ME X W a fa) (hm : X.mg "isinstance" = none) (hm2 : X.mg "ValueError" = none) (hg : Gl X "isinstance" := by rfl) (hg2 : Gl X "ValueError" := by rfl)
    (hs : starEach [a, .Name "ValueError" p2] X.env = (false, eval a X.env) :: starEach [.Name "ValueError" p2] X.env := by rfl) (hs2 : starEach [.Name "ValueError" p2] X.env = (false, eval (.Name "ValueError" p2) X.env) :: starEach [] X.env := by rfl) :
    ME X W (.Call (.Name "isinstance" p) [a, .Name "ValueError" p2] [] pos) (eIsX a0 d0 c0 hasd true fa) := m_isVE hX (T.ec c0 h0) (T.ve c0 h0) ha hm hm2 hg hg2 hs hs2
end
end PL
/-! PNm: one of several readings (an object of one of several classes); what subclasses take over. -/
namespace PL
variable {Zg : Prop}
open PySem PySem.Spec PyProof.Rows L2
section
variable {X : Cx} {W : WX} {e : Expr} {f g : EF PV} {u v : GF}
end
/-! ### a subclass c of d -/
end PL
/-! PNn: short forms for suites that handle an exception, for raise. -/
namespace PL
variable {Zg : Prop}
open PySem PySem.Spec PyProof.Rows L2 LamX L2H
section
variable {X : Cx} {W : WX} {e : Expr} {es : List Expr} {g : EF (List PV)} {pos p : Pos} {k : Nat}
end
section
variable {P : Program} {w : World} {K : PySem.W.Frag} {mg : Str → Option Value} {base : Heap} {j k : Nat} {c : Str} {names : List Str} {okv : List V → Prop}
theorem RaiF.mono (E : RaiF P w K mg base j c names okv) (h : j ≤ k) : RaiF P w K mg base k c names okv := by
  obtain ⟨⟨f, fd, ps, F, r⟩, b, n⟩ := E
  exact ⟨⟨f, fd, ps, F.mono h, r⟩, b, n⟩
end
section
variable {X : Cx} {W : WX} {c : Str} {names : List Str} {j k : Nat} {e : Expr} {es : List Expr} {g : EF (List PV)} {p pos pos' : Pos}
end
/-! ### a, b = a list -/
def bUnl (bs : List BF) : BF := fun v e => match v with
  | .lst l => bSeq bs l e
  | _ => none
@[simp] theorem bUnl_lst (bs : List BF) (l : List PV) (e : PL.Env) : bUnl bs (.lst l) e = bSeq bs l e := rfl
end PL
/-! PNo: a list turned round. -/
namespace PL
open PySem PySem.Spec PyProof.Rows L2
section
variable {X : Cx} {W : WX} {e : Expr} {fe : EF PV} {k : Nat} {p1 p2 p3 pos : Pos}
end
end PL
/-! PNp: own operators: o + t, o - i, o | p; `in` of an own class. -/
namespace PySem.W
open PySem PySem.Calls PyProof.Rows
/-- what o op b asks of the class at C, b of the built-in type T -/
structure BinT (K : Frag) (C : Addr) (op : Operator) (T : String) : Prop where
  hc : selfFirst K C = true
  hr : findIn K (.ref C) (dunderR op.info.2) = some none
  h1 : ∃ fo, findIn K (.type T) (PySem.dunder op.info.2) = some fo
  h2 : ∃ ro, findIn K (.type T) (dunderR op.info.2) = some ro
  hsub : subIn K (.type T) (.ref C) = some false
section
variable {prog : Program} {w : World} {A : Around} {E : Value → Shared → Prop} {s : Shared} {K : Frag} {x C L f : Addr} {h₀ : Heap} {m : Str → Option Value} {ox : Obj} {od : Option Obj} {T : String}
theorem bin_T {op : Operator} {b : Value} {Q : Value → Shared → Prop} (F : Fr h₀ L s.heap m) (X₀ : K.In h₀) (I : InstAt s.heap x ox C od) (hb : Looks (model prog w) s.heap (typeOf b) (.type T)) (B : BinT K C op T)
    (hs : findIn K (.ref C) (PySem.dunder op.info.2) = some (some (.ref f))) (hf : isFn K (.ref f) = true)
    (h : wpAny (model prog w) A (call (.ref f) [.ref x, b]) (CmpBack Q) E s) : wpAny (model prog w) A (binaryOp op (.ref x) b) Q E s := by
  obtain ⟨hc, hr, ⟨fo, h1⟩, ⟨ro, h2⟩, hsub⟩ := B
  have X := X₀.keeps F.keep
  obtain ⟨cd, rest, hcd, hm⟩ := ksp_first hc
  rcases hi : op.info with ⟨sym, nm'⟩
  rw [hi] at hs hr h1 h2
  dsimp only at hs hr h1 h2
  have one := ksp_try X I hs hf h
  obtain ⟨hh, g, d, tt, os⟩ := s
  have L1 : Looks (model prog w) hh (typeOf (.ref x)) (.ref C) := I.type
  have L2 : Looks (model prog w) hh (typeOf b) (.type T) := hb
  have L3 : Looks (model prog w) hh (fillsNumberSlot (.ref C) nm') true := fills_K X hcd hm hs
  have L4 : Looks (model prog w) hh (fillsNumberSlot (.type T) nm') ((fo.isSome && !isSeqSlot fo) || (ro.isSome && !isSeqSlot ro)) := ksp_fillsT X h1 h2
  have L5 : Looks (model prog w) hh (isSubtype (.type T) (.ref C)) false := looks_subIn X hsub
  have L6 : Looks (model prog w) hh (numberSlotInPython (.ref C) nm') true := ksp_inPy X hs hr (.inl rfl)
  have L7 : Looks (model prog w) hh (numberSlotInPython (.type T) nm') false := Looks.of_pure rfl
  have L8 : Looks (model prog w) hh (typeLookup (.type T) (dunderR nm')) ro := looks_findIn X h2
  generalize ((fo.isSome && !isSeqSlot fo) || (ro.isSome && !isSeqSlot ro)) = right at L4
  have hne : (Value.ref C == Value.type T) = false := Bool.eq_false_iff.mpr fun q => by cases beq_iff_eq.mp q
  simp only [binaryOp, hi]
  refine wpAny_holding (wpAny_bind ?_)
  unfold binaryOp1
  refine wpAny_bind (L1.at (wpAny_bind (L2.at (wpAny_bind (L3.at ?_)))))
  simp only [hne, Bool.false_eq_true, if_false]
  cases right with
  | false =>
    ksp_lk
    refine wpAny_mono one (fun r s' hr' => ?_) fun _ _ e => e
    obtain ⟨v, rfl, hq⟩ := hr'
    ksp_lk
    exact hq
  | true =>
    ksp_lk
    refine wpAny_mono one (fun r s' hr' => ?_) fun _ _ e => e
    obtain ⟨v, rfl, hq⟩ := hr'
    ksp_lk
    exact hq
theorem looks_ref {M : Model} {a : Addr} {o : Obj} (e : s.heap.get? a = some o) (c : o.cls = .type T) : Looks M s.heap (typeOf (.ref a)) (.type T) := by
  intro A Q E s' k q
  exact wpAny_typeOf (show s'.TypeIs (.ref a) T from ⟨o, k _ _ e, c⟩) q
end
end PySem.W
namespace PL
variable {Zg : Prop}
open PySem PySem.Spec PyProof.Rows L2
section
variable {X : Cx} {W : WX} {a b : Expr} {fa fb : EF PV} {c0 : Str} {pos : Pos} {k j : Nat} {f : Addr} {ps : List Str} {F : Fn} {op : Operator}
/-- what the right side is -/
def rBinO (C : Addr) (ty : Hp → V → Prop) (sp : Sp) : R2 := fun x y H Q => ∃ a dx fs, x = .ref a ∧ H a = some (.ins C dx fs) ∧ ty H y ∧ sp [.ref a, y] H Q fun _ _ _ => False
/-- the operator's own road -/
def BinRd (X : Cx) (op : Operator) (C f : Addr) (ty : Hp → V → Prop) : Prop := ∀ (pins : List (Addr × Obj)) (σ : L2.St) (H : Hp) (s : Shared) (a dx : Addr) (fs : List (Str × V)) (y : V) (u : Value) (Q : Value → Shared → Prop), Inv X pins σ H s → H a = some (.ins C dx fs) → RelV y u → ty H y →
  wpAny (model X.prog X.w) X.A (call (.ref f) [.ref a, u]) (PySem.W.CmpBack Q) X.xe s → wpAny (model X.prog X.w) X.A (binaryOp op (.ref a) u) Q X.xe s
theorem op_binO {ty : Hp → V → Prop} {fd : FuncData} {sp : Sp} {C : Addr} (hb0 : BinRd X op C f ty) (G : FnG Zg X.prog X.w X.K X.mg X.base k f fd ps sp) (hr : Room (k + 1) X.A) (hgd : Zg → X.A.guards = some []) (hb : Binds X.K fd ps []) : OpR X (binaryOp op) (rBinO C ty sp) := by
  intro pins s σ H x y v u Q I rx ry h
  obtain ⟨a, dx, fs, rfl, ea, hy, h⟩ := h
  obtain rfl : v = Value.ref a := rx
  refine hb0 pins σ H s a dx fs y u _ I ea ry hy ?_
  have hl : ([Value.ref a, u] ++ []).length = ps.length := G.len _ _ _ _ h
  have hb' := hb s [.ref a, u] I.kIn hl
  refine wpAny_call (codeAny_mono (G.run X.A X.stack s H ⟨[.ref a, u], []⟩ [.ref a, u] [.ref a, y] Q _ (hr.mono (Nat.le_succ k)) hgd I.env0 hb' (.cons rfl (.cons ry .nil)) h) fun r s' hq => ?_)
  cases r with
  | error e =>
    obtain ⟨_, _, _, _, _, _, _, _, _, _, _, _, z⟩ := hq
    exact z.elim
  | ok fl =>
    cases fl with
    | ret u =>
      obtain ⟨v, H', I', rv, q⟩ := I.after hq
      exact SlX.cmpback rv ⟨v, H', I', rv, q⟩
    | next => exact False.elim hq
    | brk => exact False.elim hq
    | cont => exact False.elim hq
def tyTup (K : PySem.W.Frag) : Hp → V → Prop := fun H y => ∃ a xs, y = .ref a ∧ SqT K H a xs
def tyInt : Hp → V → Prop := fun _ y => ∃ i, y = .int i
theorem rd_tup {C : Addr} {nm : Str} (he : PySem.dunder op.info.2 = nm) (hm : Meth X.K C nm f) (B : PySem.W.BinT X.K C op "tuple") : BinRd X op C f (tyTup X.K) := by
  intro pins σ H s a dx fs y u Q I ea ry hy h
  obtain ⟨t, xs, rfl, hx⟩ := hy
  obtain rfl : u = Value.ref t := ry
  obtain ⟨mA, O, _⟩ := ins_get I.hok ea
  obtain ⟨od, J, _⟩ := O.look
  obtain ⟨m, Fm⟩ := I.fr
  obtain ⟨its, r, ht, hz⟩ := I.tuple hx
  obtain ⟨o, ho, hc⟩ := ht.typeIs
  subst he
  exact PySem.W.bin_T Fm I.mod.kin J (PySem.W.looks_ref ho hc) B hm.at_ hm.fn h
theorem rd_int {C : Addr} {nm : Str} (he : PySem.dunder op.info.2 = nm) (hm : Meth X.K C nm f) (B : PySem.W.BinT X.K C op "int") : BinRd X op C f tyInt := by
  intro pins σ H s a dx fs y u Q I ea ry hy h
  obtain ⟨i, rfl⟩ := hy
  obtain ⟨t, rfl⟩ := (show ∃ t, u = Value.int i t from ry)
  obtain ⟨mA, O, _⟩ := ins_get I.hok ea
  obtain ⟨od, J, _⟩ := O.look
  obtain ⟨m, Fm⟩ := I.fr
  subst he
  exact PySem.W.bin_T Fm I.mod.kin J (PySem.W.Looks.of_pure rfl) B hm.at_ hm.fn h
def isTupP : Sto → PV → Bool := fun _ p => match p with | .tup _ => true | _ => false
def isIntP : Sto → PV → Bool := fun _ p => match p with | .int _ => true | _ => false
/-- o op b by o's own method F; ty says what b is -/
def eBinO (c0 : Str) (ty : Sto → PV → Bool) (F : Fn) (fa fb : EF PV) : EF PV := fun e st => (fa e st).bind fun p st => (fb e st).bind fun q st => if isIns c0 st p = true ∧ ty st q = true then (F [p, q] st).noE else .stuck
/-- ty says of a value what tyV says of the thing -/
def TyFor (X : Cx) (ty : Sto → PV → Bool) (tyV : Hp → V → Prop) : Prop := ∀ {B : Addr → Prop} {ρ : List Addr} {env : Env} {st : Sto} {σ : L2.St} {H : Hp} {q : PV} {y : V}, Rep X.K B ρ env st σ H → RV X.K (Excl B ρ env σ) ρ H q y → ty st q = true → tyV H y
theorem tf_tup : TyFor X isTupP (tyTup X.K) := fun {B ρ env st σ H q y} R r h => by
  cases q with
  | tup l =>
    obtain ⟨a, xs, rfl, c1, c2, c3⟩ := rv_tup r
    exact ⟨a, xs, rfl, c1.sq⟩
  | _ => cases h
theorem tf_int : TyFor X isIntP tyInt := fun {B ρ env st σ H q y} R r h => by
  cases q with
  | int i => exact ⟨i, rv_int r⟩
  | _ => cases h
theorem g_binO {ty : Sto → PV → Bool} {tyV : Hp → V → Prop} (hT : TyFor X ty tyV) (hd : BinRd X op (He.ga X.K c0) f tyV) (ha : ME X W a fa) (hb : ME X W b fb) (G : CalA Zg X.prog X.w X.K X.mg X.base k f ps F) (hr : Room j X.A) (hgd : Zg → X.A.guards = some []) (hk : k + 1 ≤ j := by decide) (hl : ps.length = 2 := by rfl) :
    ME X W (.BinOp a op b pos) (eBinO c0 ty F fa fb) := by
  obtain ⟨ta, pa, qa⟩ := ha
  obtain ⟨tb, pb, qb⟩ := hb
  obtain ⟨fd, G, bd⟩ := G
  refine ⟨_, pe_op (op_binO hd G (hr.mono hk) hgd bd) pa pb, fun B ρ env st σ H Q R h => ?_⟩
  refine qa B ρ env st σ H _ R (ROk.mono (ROk.bind h) fun pv ρ1 st1 H1 E1 h1 u ru => ?_)
  refine qb B ρ1 env st1 σ H1 _ E1.rep (ROk.mono (ROk.bind h1) fun qv ρ2 st2 H2 E2 h2 y ry => ?_)
  by_cases hi : isIns c0 st2 pv = true ∧ ty st2 qv = true
  · rw [if_pos hi] at h2
    obtain ⟨ns, vs, ei⟩ := isIns_some hi.1
    obtain ⟨a, dx, ws, rfl, g2, g3, g4⟩ := ins_at E2.rep (E2.post.rv ru) ei
    refine ⟨a, dx, _, rfl, g2, hT E2.rep ry hi.2, spF_of (W := WF) E2.rep (.cons (E2.post.rv ru) (.cons ry .nil)) hl.symm ?_⟩
    cases hF : F [pv, qv] st2 with
    | stuck => rw [hF] at h2; exact h2.elim
    | exc _ _ => rw [hF] at h2; exact h2.elim
    | ok r st3 =>
      rw [hF] at h2
      exact h2
  · rw [if_neg hi] at h2
    exact h2.elim
/-! ### the head's look -/
theorem chkBin_ok {K : PySem.W.Frag} {c0 : Str} {op : Operator} {T : String} (h : chkBin c0 op T K = true) : PySem.W.BinT K (He.ga K c0) op T := by
  obtain ⟨h1, h2⟩ := and_true2 h
  obtain ⟨h2, h3⟩ := and_true2 h2
  obtain ⟨h3, h4⟩ := and_true2 h3
  obtain ⟨h4, h5⟩ := and_true2 h4
  exact ⟨h1, of_decide_eq_true h2, Option.isSome_iff_exists.mp h3, Option.isSome_iff_exists.mp h4, of_decide_eq_true h5⟩
end
end PL
/-! POl: dicts with tuple keys: {} of them, d.get(k, x), d[k] = v, and [(b, a) for a, b in d.items()]. -/
namespace PL
variable {Zg : Prop}
open PySem PySem.Spec PyProof.Rows L2
/-! ### tables by tuple keys -/
def valT : List (List Key × PV) → List Key → Option PV
  | [], _ => none
  | kv :: r, i => if kv.1 = i then some kv.2 else valT r i
def setT : List (List Key × PV) → List Key → PV → List (List Key × PV)
  | [], _, _ => []
  | kv :: r, i, p => (if kv.1 = i then (kv.1, p) else kv) :: setT r i p
def putT (kvs : List (List Key × PV)) (i : List Key) (p : PV) : List (List Key × PV) := if (valT kvs i).isSome = true then setT kvs i p else kvs ++ [(i, p)]
section
variable {K : PySem.W.Frag} {B : Addr → Prop} {ρ ρ' : List Addr} {env : Env} {st st' : Sto} {σ : L2.St} {H H' : Hp} {N : Addr → Prop}
theorem dt_val (i : List Key) : ∀ (kvs : List (List Key × PV)) (us : List (List Key × V)), us.map (·.1) = kvs.map (·.1) → RVs K N ρ H (kvs.map (·.2)) (us.map (·.2)) →
    (valT kvs i = none ∧ valV us i = none) ∨ ∃ p u, valT kvs i = some p ∧ valV us i = some u ∧ RV K N ρ H p u
  | [], [], _, _ => .inl ⟨rfl, rfl⟩
  | [], _ :: _, e, _ => by cases e
  | _ :: _, [], e, _ => by cases e
  | kv :: kvs, u :: us, e, r => by
    have e1 : u.1 = kv.1 := (List.cons.inj e).1
    obtain ⟨v, vs, e2, r1, r2⟩ := RVs.uncons (show RVs K N ρ H (kv.2 :: kvs.map (·.2)) (u.2 :: us.map (·.2)) from r)
    cases e2
    by_cases h : kv.1 = i
    · exact .inr ⟨kv.2, u.2, if_pos h, valV_pos (by rw [e1, h]), r1⟩
    · have h2 : ¬ u.1 = i := fun z => h (by rw [← e1]; exact z)
      rw [show valT (kv :: kvs) i = valT kvs i from if_neg h, valV_neg h2]
      exact dt_val i kvs us (List.cons.inj e).2 r2
theorem dt_map (i : List Key) {p : PV} {w : V} (rw' : RV K N ρ H p w) : ∀ (kvs : List (List Key × PV)) (us : List (List Key × V)), us.map (·.1) = kvs.map (·.1) → RVs K N ρ H (kvs.map (·.2)) (us.map (·.2)) →
    (us.map fun kv => if kv.1 = i then (kv.1, w) else kv).map (·.1) = (setT kvs i p).map (·.1) ∧
      RVs K N ρ H ((setT kvs i p).map (·.2)) ((us.map fun kv => if kv.1 = i then (kv.1, w) else kv).map (·.2))
  | [], [], _, _ => ⟨rfl, .nil⟩
  | [], _ :: _, e, _ => by cases e
  | _ :: _, [], e, _ => by cases e
  | kv :: kvs, u :: us, e, r => by
    have e1 : u.1 = kv.1 := (List.cons.inj e).1
    obtain ⟨v, vs, e2, r1, r2⟩ := RVs.uncons (show RVs K N ρ H (kv.2 :: kvs.map (·.2)) (u.2 :: us.map (·.2)) from r)
    cases e2
    obtain ⟨i1, i2⟩ := dt_map i rw' kvs us (List.cons.inj e).2 r2
    by_cases h : kv.1 = i
    · have h2 : u.1 = i := by rw [e1, h]
      simp only [setT, List.map_cons, if_pos h, if_pos h2] at i1 i2 ⊢
      exact ⟨by rw [i1, e1], .cons rw' i2⟩
    · have h2 : ¬ u.1 = i := fun z => h (by rw [← e1]; exact z)
      simp only [setT, List.map_cons, if_neg h, if_neg h2] at i1 i2 ⊢
      exact ⟨by rw [i1, e1], .cons r1 i2⟩
theorem dt_put (i : List Key) {p : PV} {w : V} (rw' : RV K N ρ H p w) {kvs : List (List Key × PV)} {us : List (List Key × V)} (e : us.map (·.1) = kvs.map (·.1)) (r : RVs K N ρ H (kvs.map (·.2)) (us.map (·.2))) :
    (putK us i w).map (·.1) = (putT kvs i p).map (·.1) ∧ RVs K N ρ H ((putT kvs i p).map (·.2)) ((putK us i w).map (·.2)) := by
  unfold putK putT
  rw [valV_any]
  rcases dt_val i kvs us e r with ⟨a1, a2⟩ | ⟨q, u, a1, a2, _⟩
  · rw [a1, a2, if_neg (by simp), if_neg (by simp)]
    simp only [List.map_append]
    refine ⟨?_, r.append (.cons rw' .nil)⟩
    rw [e]
    rfl
  · rw [a1, a2, if_pos (show (some u).isSome = true from rfl), if_pos (show (some q).isSome = true from rfl)]
    exact dt_map i rw' kvs us e r
theorem putKT_len (i : List Key) (w : V) (us : List (List Key × V)) : (putK us i w).length ≤ us.length + 1 := by
  unfold putK
  split
  · rw [List.length_map]; omega
  · rw [List.length_append]; simp
def dtAt (st : Sto) : PV → Option (Nat × List (List Key × PV))
  | .gl n => match st[n]? with
    | some (.dt l) => some (n, l)
    | _ => none
  | _ => none
theorem Rep.dt (R : Rep K B ρ env st σ H) {p : PV} {u : V} {n : Nat} {l : List (List Key × PV)} (r : RV K (Excl B ρ env σ) ρ H p u) (h : dtAt st p = some (n, l)) :
    p = .gl n ∧ st[n]? = some (.dt l) ∧ ∃ a us, u = .ref a ∧ ρ[n]? = some a ∧ H a = some (.dT us) ∧ us.map (·.1) = l.map (·.1) ∧ us.length ≤ LINE ∧ RVs K (Excl B ρ env σ) ρ H (l.map (·.2)) (us.map (·.2)) := by
  cases p with
  | gl m =>
    have h2 : (match st[m]? with
      | some (.dt l) => some (m, l)
      | _ => none) = some (n, l) := h
    cases e : st[m]? with
    | none => rw [e] at h2; cases h2
    | some c =>
      rw [e] at h2
      cases c with
      | dt l' =>
        cases h2
        obtain ⟨a, rfl, hn⟩ := rv_gl r
        obtain ⟨us, q1, q2, q3, q4⟩ := R.cell _ _ a e hn
        exact ⟨rfl, e, a, us, rfl, hn, q1, q2, q3, q4⟩
      | dead => cases h2
      | lst _ => cases h2
      | dk _ => cases h2
      | tbl _ _ => cases h2
      | ins _ _ _ => cases h2
  | _ => cases h
/-! ### keys -/
def keyT : List PV → Option (List Key)
  | [] => some []
  | .int i :: r => (keyT r).map (Sum.inl i :: ·)
  | _ => none
def keyP : PV → Option (List Key)
  | .tup (p :: l) => keyT (p :: l)
  | _ => none
def kP : Key → PV
  | .inl i => .int i
  | .inr x => .str x
theorem rvs_keyT : ∀ {l : List PV} {ks : List Key} {xs : List V}, keyT l = some ks → RVs K N ρ H l xs → xs = ks.map kV
  | [], ks, xs, e, r => by cases e; exact r.unnil
  | p :: l, ks, xs, e, r => by
    obtain ⟨v, vs, rfl, r1, r2⟩ := r.uncons
    cases p with
    | int i =>
      have e : (keyT l).map (Sum.inl i :: ·) = some ks := e
      cases e2 : keyT l with
      | none => rw [e2] at e; cases e
      | some k2 =>
        rw [e2] at e
        cases e
        rw [rv_int r1, rvs_keyT e2 r2]
        rfl
    | _ => cases e
theorem rv_keyP {q : PV} {ks : List Key} {u : V} (e : keyP q = some ks) (r : RV K N ρ H q u) : ∃ b, u = .ref b ∧ H b = some (.tup (ks.map kV)) := by
  cases q with
  | tup l =>
    cases l with
    | nil => cases e
    | cons p l =>
      obtain ⟨b, xs, rfl, ht, hl, rs⟩ := rv_tup r
      have ex := rvs_keyT (show keyT (p :: l) = some ks from e) rs
      rcases ht with ⟨_, ht⟩ | ⟨e0, _⟩
      · exact ⟨b, rfl, by rw [← ex]; exact ht⟩
      · have l2 := rs.len
        rw [e0] at l2
        cases l2
  | _ => cases e
theorem rvs_kP : ∀ ks : List Key, RVs K N ρ H (ks.map kP) (ks.map kV)
  | [] => .nil
  | .inl i :: l => .cons mk_int (rvs_kP l)
  | .inr i :: l => .cons mk_str (rvs_kP l)
end
/-! ### expressions and statements -/
def eNewT : EF PV := fun _ st => .ok (.gl st.length) (st ++ [.dt []])
def eGetT2 (o k d : EF PV) : EF PV := fun e st => (o e st).bind fun p st => match dtAt st p with
  | some _ => (k e st).bind fun q st => (d e st).bind fun z st => match dtAt st p, keyP q with
    | some (_, kvs), some i => .ok ((valT kvs i).getD z) st
    | _, _ => .stuck
  | none => .stuck
def sPutT (o k v : EF PV) : SF := fun e st => (v e st).toS e fun v st => (o e st).toS e fun p st => (k e st).toS e fun q st => match dtAt st p, keyP q with
  | some (n, kvs), some i => if kvs.length < LINE then .nx e (st.set n (.dt (putT kvs i v))) else .stuck
  | _, _ => .stuck
def aliveC : Cell → Bool
  | .dead => false
  | _ => true
def lItemsT (i i1 i2 : Nat) : EF (List PV) := fun e st => match e[i]? with
  | some (.val p) => (match dtAt st p with
    | some (_, kvs) => if st.all aliveC = true ∧ (kvs.all fun kv => decide (kv.1.length ≤ LINE)) = true ∧ i1 < e.length ∧ i2 < e.length then .ok (kvs.map fun kv => .tup [kv.2, .tup (kv.1.map kP)]) st else .stuck
    | none => .stuck)
  | _ => .stuck
section
variable {X : Cx} {W : WX} {o k d v e : Expr} {fo fk fd fv : EF PV} {pos apos pos' p : Pos}
theorem m_newT : ME X W (.Dict [] [] pos) eNewT := by
  refine ⟨_, pe_dnewT, fun B ρ env st σ H Q R h => fun a np => ?_⟩
  have E := EPost.newCell (c := .dt []) (o := .dT []) R np ⟨[], upd_same, rfl, Nat.zero_le _, .nil⟩
  refine h _ _ E (.ref a) ?_
  unfold RV
  refine ⟨a, rfl, ?_⟩
  rw [List.getElem?_append_right (by rw [R.lenC]; exact Nat.le_refl _), R.lenC, Nat.sub_self]
  rfl
theorem m_getT2 {j : Nat} (hr : Room j X.A) (ho : ME X W o fo) (hk : ME X W k fk) (hd : ME X W d fd) (m : M2 X o "get" apos k d pos := by exact ⟨by rfl, by rfl, by rfl, by rfl⟩) :
    ME X W (.Call (.Attribute o "get" apos) [k, d] [] pos) (eGetT2 fo fk fd) := by
  obtain ⟨t1, p1, q1⟩ := ho
  obtain ⟨t2, p2, q2⟩ := hk
  obtain ⟨t3, p3, q3⟩ := hd
  refine ⟨_, pe_dget2 (by have := hr.units; omega) p1 p2 p3 m, fun B ρ env st σ H Q R h => ?_⟩
  refine q1 B ρ env st σ H _ R (ROk.mono (ROk.bind h) fun pv ρ1 st1 H1 E1 h1 x rx => ?_)
  cases el : dtAt st1 pv with
  | none => rw [el] at h1; exact h1.elim
  | some r =>
    obtain ⟨n, l⟩ := r
    rw [el] at h1
    obtain ⟨rfl, es, a, us, rfl, hn, c1, c2, c3, c4⟩ := E1.rep.dt rx el
    refine ⟨a, rfl, .inr ⟨us, .inl c1⟩, q2 B ρ1 env st1 σ H1 _ E1.rep (ROk.mono (ROk.bind h1) fun qv ρ2 st2 H2 E2 h2 y ry => q3 B ρ2 env st2 σ H2 _ E2.rep (ROk.mono (ROk.bind h2) fun zv ρ3 st3 H3 E3 h3 z rz => ?_))⟩
    cases el2 : dtAt st3 (.gl n) with
    | none => rw [el2] at h3; exact h3.elim
    | some r2 =>
      obtain ⟨n2, l2⟩ := r2
      rw [el2] at h3
      obtain ⟨en, es2, a2, ys, ea, hn2, d1, d2, d3, d4⟩ := E3.rep.dt ((E2.trans E3).post.rv rx) el2
      cases en
      cases ea
      cases ek : keyP qv with
      | none => rw [ek] at h3; exact h3.elim
      | some i =>
        rw [ek] at h3
        obtain ⟨b, rfl, hb⟩ := rv_keyP ek (E3.post.rv ry)
        dsimp only at h3
        have hz := h3 ρ3 H3 (.refl E3.rep)
        refine ⟨valV ys i, DGet.t d1 hb, ?_⟩
        rcases dt_val i l2 ys d2 d4 with ⟨a1, a2⟩ | ⟨pq, u, a1, a2, ru⟩
        · rw [a2]
          rw [a1] at hz
          exact hz z rz
        · rw [a2]
          rw [a1] at hz
          exact hz u ru
theorem ms_putT {j : Nat} (hr : Room j X.A) (hv : ME X W v fv) (ho : ME X W o fo) (hk : ME X W k fk) (hs : swapsWith v (some (.Subscript o k pos')) pos.line X.env = pure false := by rfl) :
    MS X W (.Assign [.Subscript o k pos'] v pos) (sPutT fo fk fv) := by
  obtain ⟨t1, p1, q1⟩ := hv
  obtain ⟨t2, p2, q2⟩ := ho
  obtain ⟨t3, p3, q3⟩ := hk
  refine ⟨_, ps_dput (by have := hr.units; omega) p2 p3 p1 hs, fun B ρ env st σ H D R h => ?_⟩
  refine q1 B ρ env st σ H _ R (ROk.mono (SOk.toS h) fun v ρ1 st1 H1 E1 h1 u ru => ?_)
  refine q2 B ρ1 env st1 σ H1 _ E1.rep (ROk.mono (SOk.toS h1) fun a ρ2 st2 H2 E2 h2 w rw' => ?_)
  refine q3 B ρ2 env st2 σ H2 _ E2.rep (ROk.mono (SOk.toS h2) fun c ρ3 st3 H3 E3 h3 y ry => ?_)
  cases el : dtAt st3 a with
  | none => rw [el] at h3; exact h3.elim
  | some r =>
    obtain ⟨n, l⟩ := r
    rw [el] at h3
    obtain ⟨rfl, es, b, us, rfl, hn, c1, c2, c3, c4⟩ := E3.rep.dt (E3.post.rv rw') el
    cases ek : keyP c with
    | none => rw [ek] at h3; exact h3.elim
    | some i =>
      rw [ek] at h3
      obtain ⟨kb, rfl, hkb⟩ := rv_keyP ek ry
      dsimp only at h3
      split at h3
      · rename_i hl
        have hu : us.length < LINE := by
          have := congrArg List.length c2
          rw [List.length_map, List.length_map] at this
          omega
        obtain ⟨g1, g2⟩ := dt_put i ((E2.trans E3).post.rv ru) c2 c4
        have kk : ∀ a o, H3 a = some o → ¬ Excl B ρ3 env σ a → (upd H3 b (.dT (putK us i u))) a = some o := fun a o q n => by
          rw [upd_ne (fun z => n (by rw [z]; exact .inr (.inl (List.mem_of_getElem? hn))))]
          exact q
        refine ⟨b, _, rfl, DPut.t c1 hkb (by rw [← LINE_eq]; exact hu), h3 ρ3 σ _ (E3.rep.cellPut es hn ⟨_, upd_same, g1, by have := putKT_len i u us; omega, RVs.carry (fun _ _ _ z => z) kk List.prefix_rfl _ _ g2⟩)⟩
      · exact h3.elim
end
/-! ### for a, b in d.items() -/
def ItiT (d : Addr) (o : Obj) (kvs : List (List Key × V)) : It :=
  ⟨fun i H => H d = some (.frz o (.dT kvs)) ∧ i < kvs.length, fun i H x H' => ∃ T k v q, kvs[i]? = some (k, v) ∧ x = .ref T ∧ H T = none ∧ H q = some (.tup (k.map kV)) ∧ H' = upd H T (.tup [.ref q, v]), fun i H => H d = some (.frz o (.dT kvs)) ∧ kvs.length ≤ i⟩
/-- the values of a locked dict with tuple keys -/
theorem Inv.frzTv {X : Cx} {pins : List (Addr × Obj)} {σ : L2.St} {H : Hp} {s : Shared} {d : Addr} {o : Obj} {kvs : List (List Key × V)} (I : Inv X pins σ H s) (h : H d = some (.frz o (.dT kvs))) :
    (d == sysModules) = false ∧ s.heap.get? d = some o ∧ o.ExactDict ∧ ∃ (es : Array DictEntry) (ep : Nat), o.data = .dict es ep ∧ es.size = kvs.length ∧
      ∀ (i : Nat) (k : List Key) (v : V), kvs[i]? = some (k, v) → ∃ (en : DictEntry) (q : Addr), es[i]? = some en ∧ en.key = .ref q ∧ H q = some (.tup (k.map kV)) ∧ RelV v en.val := by
  obtain ⟨hd, z, hs, xs, pr, o', es, ep, ho, hx, hdt, he, _⟩ := I.hok d _ h
  rw [hd] at ho
  cases ho
  refine ⟨hs, hd, hx, es, ep, hdt, ?_, fun i k v e => ?_⟩
  · have l1 : es.size = xs.length := size_of_entries he
    have l2 : kvs.length = xs.length := Paired.length pr
    omega
  · obtain ⟨b, hb, e1, e2, e3⟩ := paired_get pr e
    have q := entry_at he i
    rw [hb] at q
    exact ⟨_, b.2.1, q, rfl, e2, e3⟩
theorem turn_itemsT {P : Program} {w : World} {K : PySem.W.Frag} {d : Addr} {o : Obj} {es : Array DictEntry} {ep : Nat} {kvs : List (List Key × V)} {elts : List Expr} {kk : Nat} {tpos : Pos} (it : Addr) (hod : o.data = .dict es ep) :
    Turn P w K (.Tuple elts kk tpos) (ItiT d o kvs) [it] it (fun i h => ∃ ok ov, IsItemIter h it d i kvs.length ep ok ov) where
  mem := by simp
  obj := fun i h st b hb => by
    have e : b = it := by simpa using hb
    subst e
    obtain ⟨ok, ov, e⟩ := st
    exact ⟨_, e, fun v z => nomatch z⟩
  keep := fun i h h' st k => let ⟨ok, ov, e⟩ := st; ⟨ok, ov, k it (by simp) _ e⟩
  item := by
    intro X hP hw hK hc i pins s σ H E I hf st hg
    subst hP hw hK
    obtain ⟨hd, hi⟩ := hg
    obtain ⟨hs, hgd, hx, es', ep', hdt, hsz, ent⟩ := Inv.frzTv I hd
    obtain ⟨rfl, rfl⟩ := dict_ep hod hdt
    obtain ⟨⟨k, v⟩, hkv⟩ : ∃ p, kvs[i]? = some p := ⟨kvs[i], List.getElem?_eq_getElem hi⟩
    obtain ⟨en, q, hen, hkey, hq, rv⟩ := ent i k v hkv
    obtain ⟨ok, ov, he⟩ := st
    have hlt : it < s.heap.objs.size := Heap.lt_size he
    have hi2 : i < es'.size := by rw [hsz]; exact hi
    have hen2 : es'[i] = en := by
      rw [Array.getElem?_eq_getElem hi2] at hen
      exact Option.some.inj hen
    rw [← hsz] at he
    refine DT.nextI he ⟨o, hgd, hx, hdt⟩ hi2 fun h' ho hT hz hk => ?_
    rw [hen2, hkey] at ho hT
    refine ⟨_, rfl, wpAny_letOwnedTupleGo_items (s := { s with heap := h' }) ho fun h'' he' sb => ?_⟩
    have hT2 : h''.get? s.heap.objs.size = some { cls := .type "tuple", data := .seq #[.ref q, en.val] } := (sb.2 _ (Nat.ne_of_gt hlt)).trans hT
    have new : ObjOk X.prog X.w (upd H s.heap.objs.size (.tup [.ref q, v])) h'' s.heap.objs.size (.tup [.ref q, v]) :=
      ⟨by show 2 ≤ sizeLine; decide, [.ref q, en.val], .cons rfl (.cons rv .nil), ⟨_, hT2, rfl, _, rfl⟩⟩
    have I1 : Inv X pins σ (upd H s.heap.objs.size (.tup [.ref q, v])) { s with heap := h'' } :=
      I.turnedNew (t' := s.toks) (ch := [it]) (fun b ob hb e => (sb.2 b (by simpa using hb)).trans (hk b ob (by simpa using hb) e)) hf (Nat.le_refl _) new
    refine ⟨.ref s.heap.objs.size, _, I1, rfl, ⟨_, k, v, q, hkv, rfl, I.hok.fresh (Nat.le_refl _), hq, rfl⟩, ⟨.ref q, en.val, ?_⟩, fun b hb => ?_⟩
    · rw [← hsz]; exact he'
    · have e : b = it := by simpa using hb
      rw [e, upd_ne (Nat.ne_of_lt hlt)]
      exact (hf it (by simp)).1
  done := by
    intro X hP hw hK hc i pins s σ H E I hf st hg
    subst hP hw hK
    obtain ⟨hd, hi⟩ := hg
    obtain ⟨f0, f1, f2, f3, f4, f5⟩ := hf it (by simp)
    obtain ⟨hs, hgd, hx, es', ep', hdt, hsz, ent⟩ := Inv.frzTv I hd
    obtain ⟨rfl, rfl⟩ := dict_ep hod hdt
    obtain ⟨ok, ov, he⟩ := st
    rw [← hsz] at he
    exact DT.endI (I.ok.hd hc) he ⟨o, hgd, hx, hdt⟩ (by rw [hsz]; exact hi) fun h' eb => ⟨rfl, I.turned (t' := s.toks) (fun b ob hb e => eb b ob hb e) f0 f1 f3 f4 f5⟩
  self := fun A i s Q E st h => let ⟨_, _, e⟩ := st; PySem.W.kcp_self e h
def iItemsT (td : TE) : TI := fun σ H R => td σ H fun x H1 => ∃ d o kvs, x = .ref d ∧ H1 d = some (.frz o (.dT kvs)) ∧ R (ItiT d o kvs) H1
theorem pi_itemsT {X : Cx} {e : Expr} {td : TE} {apos cpos : Pos} {elts : List Expr} {kk : Nat} {tpos : Pos} (he : PE X e td) (hbase : attributeBase e "items" X.env (eval e X.env) = eval e X.env := by rfl) (hline : (apos.endLine == cpos.line) = true := by rfl) :
    PI X (.Tuple elts kk tpos) (.Call (.Attribute e "items" apos) [] [] cpos) (iItemsT td) := by
  refine ⟨fun pins s σ H R I h => ?_⟩
  refine wpAny_Call_method (T := "dict") (id := "dict.items") hbase rfl hline F.plainAttrs_dict F.slot_dict_items F.type_dict_items (thn (he.run pins s σ H _ I h) fun u s1 ⟨x, H1, I1, rx, d, o, kvs, ex, hd, q⟩ => ?_)
  subst ex
  obtain rfl : u = Value.ref d := rx
  obtain ⟨hs, hgd, hx, es, ep, hdt, hsz, ent⟩ := Inv.frzTv I1 hd
  have raw : DT.Raw s1.heap d es ep := ⟨o, hgd, hx, hdt⟩
  refine ⟨raw.typeIs, fun b eb => ⟨o, by cases eb; exact hgd, hx.2.1⟩, ?_⟩
  have I2 : Inv X pins σ H1 { s1 with heap := s1.heap.push { cls := .type "dict_items", data := .fields #[.ref d] } } := I1.kept (t' := s1.toks) fun b ob q => Heap.get?_push_of_some _ q
  have fin : wpAny (model X.prog X.w) X.A (pyIter (.ref s1.heap.objs.size)) (PIE X pins σ (.Tuple elts kk tpos) R) X.xe { s1 with heap := s1.heap.push { cls := .type "dict_items", data := .fields #[.ref d] } } := by
    refine DT.iterI (d := d) ⟨_, Heap.get?_push_size _ rfl, rfl, rfl⟩ (raw.push _) (pi_one (tk := s1.toks) I2 _ (turn_itemsT _ hdt) ⟨.none, .none, ?_⟩ q)
    rw [← hsz]
    exact Heap.get?_push_size _ rfl
  show wpAny _ _ (callWith cpos (.builtin "dict.items") [.ref d] [] []) _ X.xe s1
  exact method_meetsIn F.slot_dict_items F.entry_dict_items rfl (PySem.evalArgs_none ⟨rfl, raw.typeIs, F.args_dict_items_1 _, _, DT.meetsItems (es := es) (ep := ep) hs, ⟨raw, fin⟩⟩)
/-! ### [(b, a) for a, b in d.items()] -/
section
variable {K : PySem.W.Frag} {B : Addr → Prop} {ρ : List Addr} {env : Env} {st : Sto} {σ : L2.St} {H : Hp}
/-- what a callee must leave is no tuple -/
theorem Rep.noTup (R : Rep K B ρ env st σ H) (ha : st.all aliveC = true) {q : Addr} {xs : List V} (h : H q = some (.tup xs)) : ¬ Excl B ρ env σ q := by
  intro n
  rcases n with n | n | n
  · exact (R.bN q n).2 xs h
  · obtain ⟨m, hm, e⟩ := List.getElem_of_mem n
    have hm2 : m < st.length := by rw [← R.lenC]; exact hm
    have e1 : ρ[m]? = some q := by rw [List.getElem?_eq_getElem hm, e]
    have e2 : st[m]? = some st[m] := List.getElem?_eq_getElem hm2
    have al : aliveC st[m] = true := List.all_eq_true.mp ha _ (List.getElem_mem hm2)
    have c := R.cell m _ q e2 e1
    generalize st[m] = cl at c al
    cases cl with
    | dead => cases al
    | lst l => obtain ⟨_, q1, _⟩ := c; rw [h] at q1; cases q1
    | dk l => obtain ⟨_, q1, _⟩ := c; rw [h] at q1; cases q1
    | dt l => obtain ⟨_, q1, _⟩ := c; rw [h] at q1; cases q1
    | tbl x y => obtain ⟨_, _, _, q1, _⟩ := c; rw [h] at q1; cases q1
    | ins c0 ns l => obtain ⟨_, _, q1, _⟩ := c; rw [h] at q1; cases q1
  · obtain ⟨ys, e⟩ := R.oT n
    rw [h] at e
    cases e
/-- what a turn has found -/
def DoneT (H0 : Hp) (D : Addr) (us : List (List Key × V)) (H : Hp) (t : Nat) (z : V) : Prop :=
  ∃ b q k v, z = .ref b ∧ us[t]? = some (k, v) ∧ H0 b = none ∧ b ≠ D ∧ H b = some (.tup [v, .ref q]) ∧ H q = some (.tup (k.map kV))
theorem DoneT.ext {H0 H H' : Hp} {D : Addr} {us : List (List Key × V)} {t : Nat} {z : V} (h : DoneT H0 D us H t z) (E : ∀ b xs, b ≠ D → H b = some (.tup xs) → H' b = some (.tup xs)) (hD : ∀ xs, H D ≠ some (.tup xs)) : DoneT H0 D us H' t z := by
  obtain ⟨b, q, k, v, h1, h2, h3, h4, h5, h6⟩ := h
  exact ⟨b, q, k, v, h1, h2, h3, h4, E b _ h4 h5, E q _ (fun z => hD _ (by rw [← z]; exact h6)) h6⟩
theorem items_reads {a : Addr} {od : Obj} {us : List (List Key × V)} {kvs : List (List Key × PV)} {Q : VK} {i i1 i2 : Nat} {vs : List Nat} (R : Rep K B ρ env st σ H) (ha : st.all aliveC = true) (hs : σ[i]? = some (some (.ref a))) (hH : H a = some (.dT us))
    (hk : us.map (·.1) = kvs.map (·.1)) (hl : us.length ≤ LINE) (hkl : ∀ kv ∈ kvs, kv.1.length ≤ LINE) (r : RVs K (Excl B ρ env σ) ρ H (kvs.map (·.2)) (us.map (·.2))) (hv : vs = [i1, i2]) (n12 : i1 ≠ i2) (l1 : i1 < σ.length) (l2 : i2 < σ.length)
    (hQ : ∀ p xs H1 H2, Ext H H1 → H1 p = none → H2 = upd H1 p (.lst xs) → xs.length ≤ LINE → RVs K (Excl B ρ env σ) ρ H1 (kvs.map fun kv => .tup [kv.2, .tup (kv.1.map kP)]) xs → Q (.ref p) H2) :
    tLc (iItemsT (tVar i)) (gTup K 2 (gCons (gName i1) (gCons (gName i2) gNil))) tYes (tTup (tCons (tVar i2) (tCons (tVar i1) tNil))) vs σ (upd H a (.frz od (.dT us)))
      fun v H' => H' a = some (.frz od (.dT us)) ∧ Q v (upd H' a (.dT us)) := by
  subst hv
  generalize h0 : upd H a (.frz od (.dT us)) = H0
  have e0 : H0 a = some (.frz od (.dT us)) := by rw [← h0, upd_same]
  refine ⟨.ref a, hs, a, od, us, rfl, e0, fun D hD => ?_⟩
  have nDa : D ≠ a := fun z => by rw [z, e0] at hD; cases hD
  have lK : us.length = kvs.length := by
    have := congrArg List.length hk
    rwa [List.length_map, List.length_map] at this
  let Wt : Nat → Nat → Hp → Prop := fun j m H' => m = us.length - j ∧ j ≤ us.length ∧ (∀ b o, b ≠ D → H0 b = some o → H' b = some o) ∧ ∃ zs : List V, H' D = some (.lst zs) ∧ zs.length = j ∧ ∀ t z, zs[t]? = some z → DoneT H0 D us H' t z
  refine ⟨Wt, ⟨us.length, rfl, Nat.zero_le _, fun b o n e => by rw [upd_ne n]; exact e, [], upd_same, rfl, fun t z e => by simp at e⟩, fun j m H' hW => ?_⟩
  obtain ⟨hm, hj, kp, zs, hzD, hzl, hz⟩ := hW
  have ea : H' a = some (.frz od (.dT us)) := kp a _ (Ne.symm nDa) e0
  by_cases hje : j = us.length
  · -- the end
    refine .inl ⟨⟨ea, by omega⟩, ea, ?_⟩
    let H1 : Hp := fun b => if b = D then none else upd H' a (.dT us) b
    have h1n : ∀ {b}, b ≠ D → H1 b = upd H' a (.dT us) b := fun h => if_neg h
    have HD : H D = none := by
      have z := hD
      rw [← h0, upd_ne nDa] at z
      exact z
    have EX : Ext H H1 := fun b o e => by
      have nb : b ≠ D := fun z => by rw [z, HD] at e; cases e
      rw [h1n nb]
      by_cases hb : b = a
      · rw [hb, upd_same, ← hH, ← hb]; exact e
      · rw [upd_ne hb]
        exact kp b o nb (by rw [← h0, upd_ne hb]; exact e)
    refine hQ D zs H1 _ EX (if_pos rfl) ?_ (by omega) ?_
    · funext b
      by_cases hb : b = D
      · rw [hb, upd_same, upd_ne nDa, hzD]
      · rw [upd_ne hb, h1n hb]
    · have go : ∀ (n : Nat) (l : List (List Key × PV)) (xs : List V), l = kvs.drop n → xs = zs.drop n → RVs K (Excl B ρ env σ) ρ H1 (l.map fun kv => .tup [kv.2, .tup (kv.1.map kP)]) xs := by
        intro n l
        induction l generalizing n with
        | nil =>
          intro xs el ex
          have : kvs.length ≤ n := List.drop_eq_nil_iff.mp el.symm
          rw [ex, List.drop_of_length_le (by omega)]
          exact .nil
        | cons kv l ih =>
          intro xs el ex
          have hn : n < kvs.length := by
            refine Nat.lt_of_not_le fun z => ?_
            rw [List.drop_of_length_le z] at el
            cases el
          have hn2 : n < zs.length := by omega
          have hn3 : n < us.length := by omega
          rw [List.drop_eq_getElem_cons hn] at el
          rw [List.drop_eq_getElem_cons hn2] at ex
          obtain ⟨e9, el9⟩ := List.cons.inj el
          subst e9
          rw [ex]
          refine .cons ?_ (ih (n + 1) _ el9 rfl)
          obtain ⟨b, q, k, v, h1, h2, h3, h4, h5, h6⟩ := hz n _ (List.getElem?_eq_getElem hn2)
          rw [h1]
          have nba : b ≠ a := fun z => by rw [z, e0] at h3; cases h3
          have nqa : q ≠ a := fun z => by rw [z, ea] at h6; cases h6
          have nqD : q ≠ D := fun z => by rw [z, hzD] at h6; cases h6
          have Hb : H b = none := by
            have z := h3
            rw [← h0, upd_ne nba] at z
            exact z
          have b1 : H1 b = some (.tup [v, .ref q]) := by rw [h1n h4, upd_ne nba]; exact h5
          have q1 : H1 q = some (.tup (k.map kV)) := by rw [h1n nqD, upd_ne nqa]; exact h6
          have ek : k = (kvs[n]).1 := by
            have z := congrArg (fun l => l[n]?) hk
            simp only [List.getElem?_map, h2, List.getElem?_eq_getElem hn, Option.map_some, Option.some.injEq] at z
            exact z
          have rv0 : RV K (Excl B ρ env σ) ρ H (kvs[n]).2 v := by
            obtain ⟨u, k1, k2⟩ := r.get (i := n) (p := (kvs[n]).2) (by rw [List.getElem?_map, List.getElem?_eq_getElem hn]; rfl)
            rw [List.getElem?_map, h2] at k1
            cases k1
            exact k2
          refine mk_tup (R.fresh Hb) b1 (by show 2 ≤ 16777216; decide) (.cons (RV.ext EX rv0) (.cons ?_ .nil))
          refine mk_tup ?_ q1 (by rw [List.length_map, ek]; exact hkl _ (List.getElem_mem hn)) (by rw [ek]; exact rvs_kP _)
          cases eq : H q with
          | none => exact R.fresh eq
          | some o =>
            have z := EX q o eq
            rw [q1] at z
            cases z
            exact R.noTup ha eq
      exact go 0 kvs zs rfl rfl
  · refine .inr ⟨⟨ea, by omega⟩, fun H2 => Wt (j + 1) (us.length - (j + 1)) H2, fun H2 h => ⟨_, by omega, h⟩, ?_⟩
    rintro x H2 ⟨T, k, v, q, hu, rfl, hT, hq, rfl⟩
    have nTD : T ≠ D := fun z => by rw [z, hzD] at hT; cases hT
    have nqT : q ≠ T := fun z => by rw [z, hT] at hq; cases hq
    have nqD : q ≠ D := fun z => by rw [z, hzD] at hq; cases hq
    refine ⟨T, [.ref q, v], rfl, .of upd_same, rfl, .ref q, [v], rfl, v, [], rfl, rfl, ?_⟩
    have lw : (wipe σ [i1, i2]).length = σ.length := wipe_length _ _
    have s2 : (((wipe σ [i1, i2]).set i1 (some (.ref q))).set i2 (some v))[i2]? = some (some v) := List.getElem?_set_self (by rw [List.length_set, lw]; exact l2)
    have s1 : (((wipe σ [i1, i2]).set i1 (some (.ref q))).set i2 (some v))[i1]? = some (some (.ref q)) := by
      rw [List.getElem?_set_ne (Ne.symm n12)]
      exact List.getElem?_set_self (by rw [lw]; exact l1)
    refine ⟨?_, ?_⟩
    · refine wipe_same (by rw [List.length_set, List.length_set, lw]) fun t ht => ?_
      simp only [List.mem_cons, List.not_mem_nil, or_false, not_or] at ht
      rw [List.getElem?_set_ne (Ne.symm ht.2), List.getElem?_set_ne (Ne.symm ht.1), wipe_get, if_neg (by simp only [List.mem_cons, List.not_mem_nil, or_false, not_or]; exact ht)]
    · unfold tYes
      dsimp only
      rw [if_pos rfl]
      refine ⟨v, s2, .ref q, s1, by rw [sizeLine_eq]; show 2 ≤ 16777216; decide, fun p2 hp2 => ?_⟩
      generalize h3 : upd H' T (.tup [.ref q, v]) = H3 at hp2 ⊢
      have E3 : ∀ b o, H' b = some o → H3 b = some o := fun b o e => by rw [← h3, upd_ne (fun z => by rw [z, hT] at e; cases e)]; exact e
      have z3 : H3 D = some (.lst zs) := E3 _ _ hzD
      have nPD : p2 ≠ D := fun z => by rw [z, z3] at hp2; cases hp2
      have nPq : q ≠ p2 := fun z => by rw [← z, E3 _ _ hq] at hp2; cases hp2
      refine ⟨zs, by rw [upd_ne (Ne.symm nPD)]; exact z3, by rw [← LINE_eq]; omega, rfl, by omega, fun b o n e => ?_, zs ++ [.ref p2], upd_same, by rw [List.length_append, hzl]; rfl, fun t z e => ?_⟩
      · have e3 := E3 b o (kp b o n e)
        rw [upd_ne n, upd_ne (fun z => by rw [z, hp2] at e3; cases e3)]
        exact e3
      · by_cases ht : t < zs.length
        · rw [List.getElem?_append_left ht] at e
          refine (hz t z e).ext (fun b xs n eb => ?_) fun xs e => by rw [hzD] at e; cases e
          have e3 := E3 b _ eb
          rw [upd_ne n, upd_ne (fun z => by rw [z, hp2] at e3; cases e3)]
          exact e3
        · rw [List.getElem?_append_right (by omega)] at e
          have t0 : t - zs.length = 0 := by
            by_cases h : t - zs.length = 0
            · exact h
            · rw [List.getElem?_eq_none (by show 1 ≤ _; omega)] at e
              cases e
          rw [t0] at e
          cases e
          have et : t = j := by omega
          subst et
          have hp0 : H0 p2 = none := by
            cases e5 : H0 p2 with
            | none => rfl
            | some o =>
              have := E3 _ _ (kp p2 o nPD e5)
              rw [hp2] at this
              cases this
          refine ⟨p2, q, k, v, rfl, hu, hp0, nPD, by rw [upd_ne nPD, upd_same], ?_⟩
          rw [upd_ne nqD, upd_ne nPq]
          exact E3 _ _ hq
end
section
variable {X : Cx} {W : WX} {pos lpos tpos epos apos cpos q1 q2 q3 q4 q5 : Pos} {kk ke : Nat}
theorem gp_nm (i : Nat) {x : Str} (hN : X.N.Nodup) (hi : X.N[i]? = some x := by rfl) (hx : Loc X.env.scope x := by first | exact .inl rfl | exact .inr rfl) (hf : X.fn x = true ∨ X.env.scope.names.lookup x = some .local := by first | exact .inr rfl | exact .inl rfl) : PG X (.Name x pos) (gName i) := pg_name hN hi hx hf
theorem pv_nm (i : Nat) {x : Str} (hN : X.N[i]? = some x := by rfl) (hv : Vis X.env.scope x := by first | exact .inl rfl | exact .inr (.inl rfl) | exact .inr (.inr rfl)) (hd : (x == ("__debug__" : Str)) = false := by decide) (hcd : (x == ("__classdict__" : Str)) = false := by decide) : PE X (.Name x pos) (tVar i) := pe_var hN hv hd hcd
theorem ml_itemsT {i i1 i2 : Nat} {x y1 y2 : Str} {scope : Scope} {own : List (Str × Nat)} (hc : X.calm = true) (hN : X.N.Nodup) (hx : X.N[i]? = some x) (hv : Vis X.env.scope x) (ok : BlkOk X.N X.env.scope scope own) (ho : own.map (·.2) = [i1, i2]) (n12 : i1 ≠ i2)
    (hg : ∀ (s : Shared) (H : Hp) (C : Addr) (cl : List (Str × Addr)) (fp : List Addr), PG (X.blk s H scope (compEnvC scope cl C X.env) fp) (.Tuple [.Name y1 q1, .Name y2 q2] kk tpos) (gTup X.K 2 (gCons (gName i1) (gCons (gName i2) gNil))))
    (he : ∀ (s : Shared) (H : Hp) (C : Addr) (cl : List (Str × Addr)) (fp : List Addr), PE (X.blk s H scope (compEnvC scope cl C X.env) fp) (.Tuple [.Name y2 q3, .Name y1 q4] ke epos) (tTup (tCons (tVar i2) (tCons (tVar i1) tNil))))
    (hd : (x == ("__debug__" : Str)) = false := by decide) (hcd : (x == ("__classdict__" : Str)) = false := by decide)
    (hbase : attributeBase (.Name x q5) "items" X.env (eval (.Name x q5) X.env) = eval (.Name x q5) X.env := by rfl) (hline : (apos.endLine == cpos.line) = true := by rfl)
    (hs : ∀ z, foldedSetIterable (.Call (.Attribute (.Name x q5) "items" apos) [] [] cpos) X.env z = pure z := by intro _; rfl) :
    ML X W (.ListComp (.Tuple [.Name y2 q3, .Name y1 q4] ke epos) [⟨.Tuple [.Name y1 q1, .Name y2 q2] kk tpos, .Call (.Attribute (.Name x q5) "items" apos) [] [] cpos, [], 0⟩] scope lpos) (lItemsT i i1 i2) := by
  refine ⟨_, pe_lock (pe_lc hc hN (pi_itemsT (pe_var hx hv hd hcd) hbase hline) ok hg (fun s H C cl fp => pts_nil) he hs), fun B ρ env st σ H Q R h => ?_⟩
  unfold lItemsT at h
  cases e1 : env[i]? with
  | none => rw [e1] at h; exact h.elim
  | some ev =>
    rw [e1] at h
    cases ev with
    | val p =>
      dsimp only at h
      cases e2 : dtAt st p with
      | none => rw [e2] at h; exact h.elim
      | some r =>
        obtain ⟨n, kvs⟩ := r
        rw [e2] at h
        dsimp only at h
        split at h
        · rename_i hal
          obtain ⟨v, hv1, rv⟩ := R.slot i _ e1
          obtain ⟨rfl, es, a, us, rfl, hn, c1, c2, c3, c4⟩ := R.dt rv e2
          refine ⟨a, .dT us, c1, True.intro, fun od => ?_⟩
          rw [ho]
          refine items_reads R hal.1 hv1 c1 c2 c3 (fun kv hkv => of_decide_eq_true (List.all_eq_true.mp hal.2.1 kv hkv)) c4 rfl n12 (by rw [← R.lenE]; exact hal.2.2.1) (by rw [← R.lenE]; exact hal.2.2.2) fun p xs H1 H2 EX hp e hl hr => ?_
          exact h ρ H1 (.ext R EX) p xs H2 hp e hl hr
        · exact h.elim
    | non => exact h.elim
    | own _ => exact h.elim
end
end PL
/-! POm: tuples known to have no dict: isinstance, slices, zip. -/
namespace PL
variable {Zg : Prop}
open PySem PySem.Spec PyProof.Rows L2
def Ty.isTp : Ty → Bool
  | .tuple => true
  | _ => false
theorem kitB_tp (T : Ty) : kitB "tuple" T.name = some T.isTp := by cases T <;> decide +kernel
def isiU (T : Ty) : PV → Option PV
  | .tud _ => some (.bl T.isTp)
  | p => isiF T p
def slU : PV → Option Int → Option Int → Option PV
  | .tud l, lo, hi => some (if HT.sIx l.length 0 lo = 0 ∧ HT.sIx l.length l.length hi = l.length then .tud l else .tup (cutF l lo hi))
  | p, lo, hi => slF p lo hi
def eSlU (f : EF PV) (lo hi : EF (Option Int)) : EF PV := fun e st => (f e st).bind fun v st => (lo e st).bind fun i st => (hi e st).bind fun j st => .of (slU v i j) st
def iZipU (g : EF (List PV)) : EF (List PV) := fun e st => (g e st).bind fun vs st => match vs with
  | [.tup l, .tup m] => .ok (zipF l m) st
  | [.tud l, .tup m] => .ok (zipF l m) st
  | [.tud l, .tud m] => .ok (zipF l m) st
  | [.lst l, .lst m] => .ok (zipF l m) st
  | _ => .stuck
section
variable {X : Cx} {W : WX} {a e e2 : Expr} {fa f : EF PV} {g : EF (List PV)} {lo hi : Option Expr} {fl fh : EF (Option Int)} {p p2 pos tpos : Pos} {elts : List Expr} {kk : Nat}
theorem g_isU (T : Ty) {n : Str} (hm : X.mg "isinstance" = none) (hm2 : X.mg n = none) (ha : MB X W a fa) (hg : Gl X "isinstance" := by rfl) (hg2 : Gl X n := by rfl) (hv : bootBuiltins n = some (.type T.name) := by decide +kernel) (hn : n ≠ "__name__" := by decide) (hd : (n == ("__debug__" : Str)) = false := by decide)
    (h1 : starEach [a, .Name n p2] X.env = (false, eval a X.env) :: starEach [.Name n p2] X.env := by rfl) (h2 : starEach [.Name n p2] X.env = (false, eval (.Name n p2) X.env) :: starEach [] X.env := by rfl)
    (hpl : (backTo pos (starEach [.Name n p2] X.env)).any (·.1) = false := by rfl) : ME X W (.Call (.Name "isinstance" p) [a, .Name n p2] [] pos) (eUn (isiU T) fa) := by
  obtain ⟨ta, pa, qa⟩ := ha
  refine ⟨_, pe_callB call_isi hg hm (by decide +kernel) (pa_cons pa (pa_cons (pe_bltn (v := .ty T.name) hg2 hm2 hv rfl hn hd) pa_nil h2) h1) (by decide) (by decide) h1 hpl, fun B ρ env st σ H Q R h => ?_⟩
  refine qa B ρ env st σ H _ R (ROk.mono (ROk.bind h) fun q ρ1 st1 H1 E1 h1 x rx => ?_)
  obtain ⟨z, ez, hz⟩ := ROk.of E1.rep h1
  have base : isiF T q = some z → rIsi X.K [x, .ty T.name] H1 Q := fun ez => by
    unfold isiF at ez
    cases eb : isiB T q with
    | none => rw [eb] at ez; cases ez
    | some k =>
      rw [eb] at ez
      cases ez
      obtain ⟨k1, k2⟩ := isi_kit eb
      exact ⟨x, .ty T.name, .type (tyN q), .type T.name, k, rfl, .ty T.name, ty_of rx.1 k2, kit_ty k1, hz H1 Ext.refl _ mk_bl⟩
  cases q with
  | tud l =>
    have ez : some (PV.bl T.isTp) = some z := ez
    cases ez
    obtain ⟨ad, xs, rfl, ⟨_, o, h3, _⟩, _⟩ := rvb_tud rx.1
    exact ⟨.ref ad, .ty T.name, .type "tuple", .type T.name, T.isTp, rfl, .ty T.name, .fTuple h3, kit_ty (kitB_tp T), hz H1 Ext.refl _ mk_bl⟩
  | _ => exact base ez
end
section
variable {e : PL.Env} {st : Sto}
@[simp] theorem eSlU_e (f : EF PV) (lo hi : EF (Option Int)) : eSlU f lo hi e st = (f e st).bind fun v st => (lo e st).bind fun i st => (hi e st).bind fun j st => .of (slU v i j) st := rfl
@[simp] theorem iZipU_e (g : EF (List PV)) : iZipU g e st = (g e st).bind fun vs st => match vs with | [.tup l, .tup m] => .ok (zipF l m) st | [.tud l, .tup m] => .ok (zipF l m) st | [.tud l, .tud m] => .ok (zipF l m) st | [.lst l, .lst m] => .ok (zipF l m) st | _ => .stuck := rfl
@[simp] theorem eNewT_e : eNewT e st = .ok (.gl st.length) (st ++ [.dt []]) := rfl
@[simp] theorem eGetT2_e (o k d : EF PV) : eGetT2 o k d e st = (o e st).bind fun p st => match dtAt st p with
  | some _ => (k e st).bind fun q st => (d e st).bind fun z st => match dtAt st p, keyP q with
    | some (_, kvs), some i => .ok ((valT kvs i).getD z) st
    | _, _ => .stuck
  | none => .stuck := rfl
@[simp] theorem sPutT_e (o k v : EF PV) : sPutT o k v e st = (v e st).toS e fun v st => (o e st).toS e fun p st => (k e st).toS e fun q st => match dtAt st p, keyP q with
  | some (n, kvs), some i => if kvs.length < LINE then .nx e (st.set n (.dt (putT kvs i v))) else .stuck
  | _, _ => .stuck := rfl
@[simp] theorem lItemsT_e (i i1 i2 : Nat) : lItemsT i i1 i2 e st = match e[i]? with
  | some (.val p) => (match dtAt st p with
    | some (_, kvs) => if st.all aliveC = true ∧ (kvs.all fun kv => decide (kv.1.length ≤ LINE)) = true ∧ i1 < e.length ∧ i2 < e.length then .ok (kvs.map fun kv => .tup [kv.2, .tup (kv.1.map kP)]) st else .stuck
    | none => .stuck)
  | _ => .stuck := rfl
end
end PL
/-! POn: a + b of two lists, a new list of its own. -/
namespace PL
variable {Zg : Prop}
open PySem PySem.Spec PyProof.Rows L2
def lAdd (fa fb : EF PV) : EF (List PV) := fun e st => (fa e st).bind fun p st => (fb e st).bind fun q st => match p, q with
  | .lst l, .lst m => if l.length + m.length ≤ LINE then .ok (l ++ m) st else .stuck
  | _, _ => .stuck
section
variable {X : Cx} {W : WX} {a b : Expr} {fa fb : EF PV} {pos : Pos}
theorem ml_add (ha : MB X W a fa) (hb : MB X W b fb) : ML X W (.BinOp a .Add b pos) (lAdd fa fb) := by
  obtain ⟨ta, pa, qa⟩ := ha
  obtain ⟨tb, pb, qb⟩ := hb
  refine ⟨_, pe_op op_cat pa pb, fun B ρ env st σ H Q R h => ?_⟩
  refine qa B ρ env st σ H _ R (ROk.mono (ROk.bind h) fun p ρ1 st1 H1 E1 h1 x rx => ?_)
  refine qb B ρ1 env st1 σ H1 _ E1.rep (ROk.mono (ROk.bind h1) fun q ρ2 st2 H2 E2 h2 y ry => ?_)
  have rx2 := (RVl.on E2 E2.fr rx).1
  cases p with
  | lst l =>
    cases q with
    | lst m =>
      dsimp only at h2
      split at h2
      · rename_i hl
        obtain ⟨c, xs, rfl, h3, h3', h4⟩ := rvb_lst rx2
        obtain ⟨d, ys, rfl, h5, h5', h6⟩ := rvb_lst ry.1
        have ll : (xs ++ ys).length ≤ LINE := by rw [List.length_append, h4.len, h6.len]; exact hl
        exact ⟨c, d, xs, ys, rfl, rfl, h3, h5, by rw [← LINE_eq, ← List.length_append]; exact ll, fun p np => h2 ρ2 H2 (.refl E2.rep) p (xs ++ ys) _ np rfl ll (h4.append h6)⟩
      · exact h2.elim
    | _ => exact h2.elim
  | _ => exact h2.elim
end
section
variable {e : PL.Env} {st : Sto}
@[simp] theorem lAdd_e (fa fb : EF PV) : lAdd fa fb e st = (fa e st).bind fun p st => (fb e st).bind fun q st => match p, q with
  | .lst l, .lst m => if l.length + m.length ≤ LINE then .ok (l ++ m) st else .stuck
  | _, _ => .stuck := rfl
end
end PL
/-! RcY: choices sorted by a key; what choices save; sizes. -/
namespace Rc
open PySem PySem.Spec L2 PL
section
variable {e : PL.Env} {st : Sto}
@[simp] theorem eNewD_e : eNewD e st = .ok (.gl st.length) (st ++ [.dk []]) := rfl
@[simp] theorem eGetD2_e (o k d : EF PV) : eGetD2 o k d e st = (o e st).bind fun p st => match dkAt st p with
  | some _ => (k e st).bind fun q st => (d e st).bind fun z st => match dkAt st p, q with
    | some (_, kvs), .int i => .ok ((valD kvs i).getD z) st
    | _, _ => .stuck
  | none => .stuck := rfl
@[simp] theorem eAtD_e (o k : EF PV) : eAtD o k e st = (o e st).bind fun p st => (k e st).bind fun q st => match dkAt st p, q with
  | some (_, kvs), .int i => (match valD kvs i with
    | some v => .ok v st
    | none => .stuck)
  | _, _ => .stuck := rfl
@[simp] theorem sPutD_e (o k v : EF PV) : sPutD o k v e st = (v e st).toS e fun v st => (o e st).toS e fun p st => (k e st).toS e fun q st => match dkAt st p, q with
  | some (n, kvs), .int i => if kvs.length < LINE then .nx e (st.set n (.dk (putD kvs i v))) else .stuck
  | _, _ => .stuck := rfl
@[simp] theorem lListD_e (o : EF PV) : lListD o e st = (o e st).bind fun p st => match dkAt st p with
  | some (_, kvs) => .ok (kvs.map fun kv => .int kv.1) st
  | none => .stuck := rfl
@[simp] theorem lSortF_e (F : Fn) (f : EF PV) : lSortF F f e st = (f e st).bind fun v st => match v with
  | .lst l => sortF F l st
  | _ => .stuck := rfl
@[simp] theorem eSubO_e (c0 : Str) (F : Fn) (fa fb : EF PV) : eSubO c0 F fa fb e st = (fa e st).bind fun p st => (fb e st).bind fun q st => if isIns c0 st p = true then (F [p, q] st).noE else .stuck := rfl
@[simp] theorem eTupD_e (g : EF (List PV)) : eTupD g e st = (g e st).bind fun l st => if l.length ≤ LINE then .ok (.tud l) st else .stuck := rfl
@[simp] theorem eDictP_e (f : EF PV) : eDictP f e st = (f e st).bind fun v st => match v with
  | .tud l => match pairsD l with
    | some kvs => .ok (.gl st.length) (st ++ [.dk (mergeD [] kvs)])
    | none => .stuck
  | _ => .stuck := rfl
@[simp] theorem dropE_e (f : EF PV) : dropE f e st = dropR glB st.length (f e st) := rfl
@[simp] theorem dropT_e (f : EF Bool) : dropT f e st = dropR (fun _ _ => true) st.length (f e st) := rfl
@[simp] theorem tInD_e (fk fo : EF PV) : tInD fk fo e st = (fk e st).bind fun q st => (fo e st).bind fun p st => match dkAt st p, q with
  | some (_, kvs), .int i => .ok (valD kvs i).isSome st
  | _, _ => .stuck := rfl
@[simp] theorem eMaxG_e (f : EF PV) : eMaxG f e st = (f e st).bind fun p st => match lstAt st p with
  | some (_, l) => (match (intsOf l).bind maxL with
    | some m => .ok (.int m) st
    | none => .stuck)
  | none => .stuck := rfl
@[simp] theorem eOpG_e (k : PV → PV → Option PV) (fa fb : EF PV) : eOpG k fa fb e st = (fa e st).bind fun p st => (fb e st).bind fun q st => match lstAt st p with
  | some (_, l) => .of (k (.lst l) q) st
  | none => .stuck := rfl
/-- a choice of the program's, without a dict -/
@[simp] theorem lenF_tud (l : List PV) : lenF [.tud l] = some (.int l.length) := rfl
abbrev dV (ch : Ch) : PV := .tud (ch.map pairV)
theorem lcG_ifAt {α : Type} {f : Sto → α → RE (Option PV)} {p : α → Bool} {g : α → PV} : ∀ {l : List α}, (∀ x ∈ l, f st x = if p x = true then .ok (some (g x)) st else .ok none st) → lcG f l st = .ok ((l.filter p).map g) st
  | [], _ => rfl
  | x :: l, h => by
    unfold lcG
    rw [h x List.mem_cons_self, List.filter_cons]
    have i := lcG_ifAt fun y hy => h y (List.mem_cons_of_mem _ hy)
    by_cases hp : p x = true
    · rw [if_pos hp, if_pos hp]; simp [i]
    · rw [if_neg hp, if_neg hp]; simp [i]
/-! ### what is full -/
/-! ### what is saved -/
end
end Rc
/-! RcZ: the sizes of choices; the most that each size saves; tables of ints. -/
namespace Rc
open PySem PySem.Spec L2 PL
/-! ### the order of choices -/
/-! ### a part of a choice is one -/
def PC (F : List Ch) : Prop := ∀ x ∈ F, x ≠ [] → x.dropLast ∈ F
theorem sizes {F : List Ch} (h : PC F) : ∀ (n : Nat) (x : Ch), x ∈ F → x.length = n → ∀ k, k ≤ n → ∃ y ∈ F, y.length = k
  | 0, x, hx, hl, k, hk => ⟨x, hx, by omega⟩
  | n + 1, x, hx, hl, k, hk => by
    by_cases hk2 : k = n + 1
    · exact ⟨x, hx, by omega⟩
    · exact sizes h n x.dropLast (h x hx fun e => by rw [e] at hl; cases hl) (by rw [List.length_dropLast]; omega) k (by omega)
/-! ### what is saved -/
/-! ### tables of ints -/
/-! ### the most that each size saves -/
end Rc
/-! RcB: deals and lines of a choice stand once; how many choices there are; the best ones. -/
namespace Rc
open PySem PySem.Spec L2 PL
structure ChL (i : Nat) (ch : Ch) : Prop where
  lt : ∀ p ∈ ch, p.1 < (i : Int)
  nd1 : (ch.map (·.1)).Nodup
  nd2 : (ch.map (·.2)).Nodup
  ln : ∀ p ∈ ch, 0 ≤ p.2 ∧ p.2 < 5
theorem ChL.mono {i j : Nat} {ch : Ch} (h : ChL i ch) (k : i ≤ j) : ChL j ch := ⟨fun p hp => by have := h.lt p hp; omega, h.nd1, h.nd2, h.ln⟩
theorem DealOk.nd {c : List Int} {d : Deal} (h : DealOk c d) : (d.map (·.1)).Nodup := h.2.imp fun h => by omega
/-- how many come of one with k pairs, by m deals more -/
def cnt : Nat → Nat → Nat
  | 0, _ => 1
  | m + 1, k => cnt m k + (5 - k) * cnt m (k + 1)
def total (m : Nat) (F : List Ch) : Nat := (F.map fun ch => cnt m ch.length).sum
/-! ### the lines of a deal -/
end Rc
/-! RcI: values that are told apart by their data: in, not in, ==, != of lists and tuples of them. -/
namespace Rc
open PySem PySem.Spec L2 PL
/-- v lays each x as data d, told apart by the data -/
structure Enc {α : Type} [DecidableEq α] (v : α → PV) (d : α → PyData) (n : Nat) : Prop where
  to : ∀ x, toD (v x) = some (d x)
  eq : ∀ x y, PyData.eqv (d x) (d y) = decide (x = y)
  lay : ∀ x, (d x).canLay0 = true
  dep : ∀ x, (d x).depth ≤ n
section
variable {α : Type} [DecidableEq α] {v : α → PV} {d : α → PyData} {n : Nat}
theorem Enc.tos (E : Enc v d n) : ∀ l : List α, toDs (l.map v) = some (l.map d)
  | [] => by unfold List.map toDs; rfl
  | x :: l => by
    rw [List.map_cons]
    unfold toDs
    rw [E.to x, E.tos l]
    rfl
theorem Enc.eqs (E : Enc v d n) : ∀ l m : List α, PyData.eqvAll (l.map d) (m.map d) = decide (l = m)
  | [], [] => by simp [PyData.eqvAll]
  | [], _ :: _ => by simp [PyData.eqvAll]
  | _ :: _, [] => by simp [PyData.eqvAll]
  | x :: l, y :: m => by
    show (PyData.eqv (d x) (d y) && PyData.eqvAll (l.map d) (m.map d)) = _
    rw [E.eq, E.eqs l m, Bool.eq_iff_iff]
    simp
theorem Enc.lays (E : Enc v d n) : ∀ l : List α, PyData.canLayAll0 (l.map d) = true
  | [] => rfl
  | x :: l => by
    show ((d x).canLay0 && PyData.canLayAll0 (l.map d)) = true
    rw [E.lay, E.lays l]
    rfl
theorem Enc.deps (E : Enc v d n) : ∀ l : List α, PyData.depthAll (l.map d) ≤ n
  | [] => Nat.zero_le _
  | x :: l => by
    show max (d x).depth (PyData.depthAll (l.map d)) ≤ n
    exact Nat.max_le.mpr ⟨E.dep x, E.deps l⟩
theorem Enc.shp (E : Enc v d n) (h : n ≤ 64) (x : α) : SeqAt.shaped (d x) = true := by
  unfold SeqAt.shaped
  rw [E.lay, decide_eq_true (Nat.le_trans (E.dep x) h)]
  rfl
theorem Enc.any (E : Enc v d n) (x : α) (l : List α) {_ : Decidable (x ∈ l)} : ((l.map d).any fun z => PyData.eqv z (d x)) = decide (x ∈ l) := by
  rw [List.any_map, Bool.eq_iff_iff]
  simp only [List.any_eq_true, decide_eq_true_eq, Function.comp, E.eq]
  constructor
  · rintro ⟨y, hy, e⟩
    rw [← e]
    exact hy
  · exact fun h => ⟨x, h, rfl⟩
theorem Enc.eqGv (E : Enc v d n) (h : n ≤ 64) (x y : α) {_ : Decidable (x = y)} : eqG (v x) (v y) = some (.bl (decide (x = y))) := by
  unfold eqG
  rw [E.to, E.to]
  dsimp only
  rw [if_pos ⟨E.shp h x, E.shp h y⟩, E.eq]
  congr 2
  rw [Bool.eq_iff_iff]; simp
theorem Enc.neGv (E : Enc v d n) (h : n ≤ 64) (x y : α) {_ : Decidable (x = y)} : neG (v x) (v y) = some (.bl (!decide (x = y))) := by
  unfold neG
  rw [E.to, E.to]
  dsimp only
  rw [if_pos ⟨E.shp h x, E.shp h y⟩, E.eq]
  congr 3
  rw [Bool.eq_iff_iff]; simp
theorem Enc.tup (E : Enc v d n) : Enc (fun l : List α => PV.tup (l.map v)) (fun l => .tuple (l.map d)) (n + 1) :=
  ⟨fun l => by unfold toD; rw [E.tos l]; rfl, fun l m => E.eqs l m, fun l => E.lays l, fun l => Nat.add_le_add_right (E.deps l) 1⟩
theorem Enc.lst (E : Enc v d n) : Enc (fun l : List α => PV.lst (l.map v)) (fun l => .list (l.map d)) (n + 1) :=
  ⟨fun l => by unfold toD; rw [E.tos l]; rfl, fun l m => E.eqs l m, fun l => E.lays l, fun l => Nat.add_le_add_right (E.deps l) 1⟩
theorem Enc.mono {m : Nat} (E : Enc v d n) (h : n ≤ m) : Enc v d m := ⟨E.to, E.eq, E.lay, fun x => Nat.le_trans (E.dep x) h⟩
end
theorem encI : Enc PV.int PyData.int 0 := ⟨fun x => by unfold toD; rfl, fun x y => by show (x == y) = _; rw [Bool.eq_iff_iff]; simp, fun _ => rfl, fun _ => Nat.le_refl _⟩
theorem encPair {α β : Type} [DecidableEq α] [DecidableEq β] {v : α → PV} {d : α → PyData} {w : β → PV} {e : β → PyData} {n : Nat} (E : Enc v d n) (F : Enc w e n) : Enc (fun p : α × β => PV.tup [v p.1, w p.2]) (fun p => .tuple [d p.1, e p.2]) (n + 1) :=
  ⟨fun p => by unfold toD toDs; rw [E.to]; unfold toDs; rw [F.to]; unfold toDs; rfl, fun p q => by
    show (PyData.eqv (d p.1) (d q.1) && (PyData.eqv (e p.2) (e q.2) && true)) = _
    rw [E.eq, F.eq, Bool.eq_iff_iff]
    simp [Prod.ext_iff], fun p => by
    show ((d p.1).canLay0 && ((e p.2).canLay0 && true)) = true
    rw [E.lay, F.lay]; rfl, fun p => by
    show max (d p.1).depth (max (e p.2).depth 0) + 1 ≤ n + 1
    have := E.dep p.1
    have := F.dep p.2
    omega⟩
theorem encP : Enc pairV (fun p => .tuple [.int p.1, .int p.2]) 1 := encPair encI encI
theorem encL : Enc intsV (fun l : List Int => .tuple (l.map PyData.int)) 1 := encI.tup
end Rc
/-! RcL: nested groups: of two choices the larger one has something that can be added to the other. -/
namespace Rc
def inG (a : List Int) : Int → Bool := fun p => decide (p ∈ a)
/-- each group's limit is kept -/
def keeps (gs : List (Int × List Int)) (S : List Int) : Prop := ∀ g ∈ gs, (S.countP (inG g.2) : Int) ≤ g.1
end Rc
/-! RcM: what stands among all choices: rising pairs that are offered, each line once, no group too full. -/
namespace Rc
open PySem PySem.Spec L2 PL
structure OkCh (ds : List Deal) (gs : List Grp) (n : Nat) (ch : Ch) : Prop where
  up : ch.Pairwise fun p q => p.1 < q.1
  lt : ∀ p ∈ ch, 0 ≤ p.1 ∧ p.1 < (n : Int)
  off : ∀ p ∈ ch, offB ds p = true
  once : (ch.map (·.2)).Nodup
  few : fulls gs (ch.map (·.1)) = []
theorem OkCh.mono {ds : List Deal} {gs : List Grp} {n m : Nat} {ch : Ch} (h : OkCh ds gs n ch) (k : n ≤ m) : OkCh ds gs m ch := ⟨h.up, fun p hp => by have := h.lt p hp; omega, h.off, h.once, h.few⟩
end Rc
/-! RcP: a deal less, greater limits, more deals: what becomes of the choices. -/
namespace Rc
open PySem PySem.Spec L2 PL
/-! ### numbers behind a deal that goes -/
def up (k x : Int) : Int := if x < k then x else x + 1
def dn (k x : Int) : Int := x - if x > k then 1 else 0
theorem up_ne (k x : Int) : up k x ≠ k := by unfold up; split <;> omega
theorem up_dn {k x : Int} (h : x ≠ k) : up k (dn k x) = x := by unfold up dn; split <;> split <;> omega
theorem dn_up (k x : Int) : dn k (up k x) = x := by unfold up dn; split <;> split <;> omega
theorem dn_lt {k x y : Int} (hx : x ≠ k) (hy : y ≠ k) : dn k x < dn k y ↔ x < y := by unfold dn; split <;> split <;> omega
theorem dn_bd {k x m : Int} (h0 : 0 ≤ x) (h1 : x < m) (hx : x ≠ k) (hk : k < m) (k0 : 0 ≤ k) : 0 ≤ dn k x ∧ dn k x < m - 1 := by unfold dn; split <;> omega
def left (k : Int) (l : List Int) : List Int := (l.filter fun x => !decide (x = k)).map (dn k)
theorem mem_left {k x : Int} {l : List Int} : x ∈ left k l ↔ up k x ∈ l := by
  unfold left
  rw [List.mem_map]
  constructor
  · rintro ⟨y, hy, rfl⟩
    obtain ⟨h1, h2⟩ := List.mem_filter.mp hy
    rw [up_dn (by simpa using h2)]
    exact h1
  · intro h
    exact ⟨up k x, List.mem_filter.mpr ⟨h, by simpa using up_ne k x⟩, dn_up k x⟩
theorem left_rises {k : Int} {l : List Int} (h : Rises l) : Rises (left k l) := by
  unfold left Rises
  rw [List.pairwise_map]
  refine (List.Pairwise.filter _ h).imp_of_mem fun ha hb h => ?_
  have a := (List.mem_filter.mp ha).2
  have b := (List.mem_filter.mp hb).2
  exact (dn_lt (by simpa using a) (by simpa using b)).mpr h
/-! ### groups without a deal -/
def mn2 (i j : Int) : Int := if j < i then j else i
def putW (T : List (List Int × Int)) (l : List Int) (x : Int) : List (List Int × Int) := if T.any (fun e => decide (e.1 = l)) = true then T.map (fun e => if e.1 = l then (e.1, mn2 x e.2) else e) else T ++ [(l, x)]
def stepW (k : Int) (T : List (List Int × Int)) (g : Grp) : List (List Int × Int) := if left k g.2 = [] then T else putW T (left k g.2) g.1
def foldW (k : Int) (gs : List Grp) (T : List (List Int × Int)) : List (List Int × Int) := gs.foldl (stepW k) T
def gsW (gs : List Grp) (k : Int) : List Grp := (foldW k gs []).map fun e => (e.2, e.1)
theorem putW_keys {T : List (List Int × Int)} {l : List Int} {x : Int} : (putW T l x).map (·.1) = if T.any (fun e => decide (e.1 = l)) = true then T.map (·.1) else T.map (·.1) ++ [l] := by
  unfold putW
  split
  · rw [List.map_map]
    refine List.map_congr_left fun e _ => ?_
    show (if e.1 = l then (e.1, mn2 x e.2) else e).1 = e.1
    split <;> rfl
  · rw [List.map_append]; rfl
theorem any_key {T : List (List Int × Int)} {l : List Int} : T.any (fun e => decide (e.1 = l)) = true ↔ l ∈ T.map (·.1) := by
  rw [List.any_eq_true, List.mem_map]
  exact ⟨fun ⟨e, h1, h2⟩ => ⟨e, h1, of_decide_eq_true h2⟩, fun ⟨e, h1, h2⟩ => ⟨e, h1, decide_eq_true h2⟩⟩
theorem putW_nd {T : List (List Int × Int)} {l : List Int} {x : Int} (h : (T.map (·.1)).Nodup) : ((putW T l x).map (·.1)).Nodup := by
  rw [putW_keys]
  split
  · exact h
  · rename_i n
    refine List.nodup_append.mpr ⟨h, by simp, fun a ha b hb e => n (any_key.mpr ?_)⟩
    rw [← List.mem_singleton.mp hb, ← e]
    exact ha
/-- where each of them comes from -/
structure TOk (k : Int) (gs : List Grp) (T : List (List Int × Int)) : Prop where
  nd : (T.map (·.1)).Nodup
  src : ∀ e ∈ T, e.1 ≠ [] ∧ (∃ g ∈ gs, e.1 = left k g.2) ∧ ∃ g ∈ gs, e.2 = g.1
theorem putW_ok {k : Int} {gs : List Grp} {T : List (List Int × Int)} (h : TOk k gs T) {g : Grp} (hg : g ∈ gs) : TOk k gs (stepW k T g) := by
  unfold stepW
  split
  · exact h
  · rename_i n
    refine ⟨putW_nd h.nd, fun e he => ?_⟩
    unfold putW at he
    split at he
    · obtain ⟨f, hf, rfl⟩ := List.mem_map.mp he
      obtain ⟨a, b, c⟩ := h.src f hf
      split
      · refine ⟨a, b, ?_⟩
        dsimp only
        unfold mn2
        split
        · exact c
        · exact ⟨g, hg, rfl⟩
      · exact ⟨a, b, c⟩
    · rcases List.mem_append.mp he with he | he
      · exact h.src e he
      · rw [List.mem_singleton.mp he]
        exact ⟨n, ⟨g, hg, rfl⟩, g, hg, rfl⟩
theorem foldW_ok {k : Int} {all : List Grp} : ∀ (gs : List Grp) (T : List (List Int × Int)), (∀ g ∈ gs, g ∈ all) → TOk k all T → TOk k all (foldW k gs T)
  | [], _, _, h => h
  | g :: gs, T, hs, h => foldW_ok gs (stepW k T g) (fun g' hg' => hs g' (List.mem_cons_of_mem _ hg')) (putW_ok h (hs g List.mem_cons_self))
theorem putW_len {T : List (List Int × Int)} {l : List Int} {x : Int} : (putW T l x).length ≤ T.length + 1 := by
  unfold putW
  split
  · rw [List.length_map]; omega
  · rw [List.length_append]; simp
theorem foldW_len {k : Int} : ∀ (gs : List Grp) (T : List (List Int × Int)), (foldW k gs T).length ≤ T.length + gs.length
  | [], T => by simp [foldW]
  | g :: gs, T => by
    show (foldW k gs (stepW k T g)).length ≤ _
    have ih := foldW_len (k := k) gs (stepW k T g)
    have : (stepW k T g).length ≤ T.length + 1 := by
      unfold stepW
      split
      · omega
      · exact putW_len
    rw [List.length_cons]
    omega
theorem left_meet {k : Int} {a b : List Int} (h : Meet a b) (n : left k a ≠ left k b) : Meet (left k a) (left k b) := by
  refine ⟨n, ?_⟩
  rcases h.2 with h | h | h
  · exact .inl fun x hx z => h _ (mem_left.mp hx) (mem_left.mp z)
  · exact .inr (.inl fun x hx => mem_left.mpr (h _ (mem_left.mp hx)))
  · exact .inr (.inr fun x hx => mem_left.mpr (h _ (mem_left.mp hx)))
theorem meet_symm {a b : List Int} (h : Meet a b) : Meet b a := ⟨h.1.symm, by
  rcases h.2 with h | h | h
  · exact .inl fun x hx z => h x z hx
  · exact .inr (.inr h)
  · exact .inr (.inl h)⟩
theorem grps_two {m : Nat} {gs : List Grp} (h : GrpsOk m gs) : ∀ a ∈ gs, ∀ b ∈ gs, a.2 ≠ b.2 → Meet a.2 b.2 := by
  intro a ha b hb n
  have key : ∀ l : List Grp, l.Pairwise (fun a b => Meet a.2 b.2) → a ∈ l → b ∈ l → Meet a.2 b.2 := fun l => by
    induction l with
    | nil => intro _ z; cases z
    | cons x l ih =>
      intro hp h1 h2
      obtain ⟨p1, p2⟩ := List.pairwise_cons.mp hp
      rcases List.mem_cons.mp h1 with e1 | k1
      · rcases List.mem_cons.mp h2 with e2 | k2
        · exact absurd (by rw [e1, e2]) n
        · rw [e1]
          exact p1 b k2
      · rcases List.mem_cons.mp h2 with e2 | k2
        · rw [e2]
          exact meet_symm (p1 a k1)
        · exact ih p2 k1 k2
  exact key gs h.2.2 ha hb
theorem gsW_ok {m k : Nat} {gs : List Grp} (h : GrpsOk m gs) (hk : k < m) : GrpsOk (m - 1) (gsW gs k) := by
  have t : TOk (k : Int) gs (foldW k gs []) := foldW_ok gs [] (fun _ h => h) ⟨by simp, by simp⟩
  have tl := foldW_len (k := (k : Int)) gs []
  refine ⟨by unfold gsW; rw [List.length_map]; have := h.1; simp at tl; omega, fun g hg => ?_, ?_⟩
  · obtain ⟨e, he, rfl⟩ := List.mem_map.mp hg
    obtain ⟨n, ⟨g1, hg1, e1⟩, g2, hg2, e2⟩ := t.src e he
    obtain ⟨a1, a2, _⟩ := h.2.1 g2 hg2
    obtain ⟨_, _, _, b4, b5⟩ := h.2.1 g1 hg1
    refine ⟨by dsimp only; rw [e2]; exact a1, by dsimp only; rw [e2]; exact a2, n, by dsimp only; rw [e1]; exact left_rises b4, fun x hx => ?_⟩
    dsimp only at hx
    rw [e1] at hx
    obtain ⟨y, hy, rfl⟩ := List.mem_map.mp hx
    obtain ⟨hy1, hy2⟩ := List.mem_filter.mp hy
    have bd := b5 y hy1
    have := dn_bd (k := (k : Int)) bd.1 bd.2 (by simpa using hy2) (by omega) (by omega)
    omega
  · unfold gsW
    rw [List.pairwise_map]
    refine List.Pairwise.imp_of_mem (fun {a b} ha hb n => ?_) (List.pairwise_map.mp t.nd)
    obtain ⟨_, ⟨g1, hg1, e1⟩, _⟩ := t.src a ha
    obtain ⟨_, ⟨g2, hg2, e2⟩, _⟩ := t.src b hb
    have n : a.1 ≠ b.1 := n
    show Meet a.1 b.1
    rw [e1, e2] at n ⊢
    exact left_meet (grps_two h g1 hg1 g2 hg2 fun z => n (by rw [z])) n
/-! ### choices without a deal -/
/-! ### more deals, greater limits -/
end Rc
/-! Q09F: what the defs compute. -/
namespace Q09
open PySem PySem.Spec L2 PL
noncomputable section
def f__law_cell_at : SF := (sSeq (sIf (tV (eOp ltF (eVar 1) (eB lenF (aCons (eVar 0) aNil)))) (sSeq (sRet (eIx (eVar 0) (eVar 1))) sNil) sNil) (sSeq (sRet (eC (.int 0))) sNil))
def F__law_cell_at : Fn := mkFn 2 f__law_cell_at
def f__law_pen : SF := (sSeq (sRetG (lDisp (aCons (eB maxF (aCons (eC (.int 0)) (aCons (eOp subF (eVar 0) (eOp powF (eC (.int 10)) (eC (.int 18)))) aNil))) (aCons (eOp modF (eVar 0) (eC (.int 1000000007))) (aCons (eC (.int 0)) aNil))))) sNil)
def F__law_pen : Fn := mkFn 1 f__law_pen
def f__law_draw : SF := (sSeq (sIf (tV (eOp gtF (eIx (eVar 0) (eC (.int 0))) (eC (.int 0)))) (sSeq (sAsg (bName 2) (eOp modF (eIx (eVar 0) (eC (.int 0))) (eVar 1))) (sSeq (sSetG (eVar 0) (eC (.int 0)) (eOp divF (eIx (eVar 0) (eC (.int 0))) (eVar 1))) (sSeq (sRet (eVar 2)) sNil))) sNil) (sSeq (sSetG (eVar 0) (eC (.int 2)) (eOp addF (eIx (eVar 0) (eC (.int 2))) (eC (.int 1)))) (sSeq (sAsg (bName 3) (eOp modF (eOp mulF (eOp addF (eIx (eVar 0) (eC (.int 1))) (eOp mulF (eC (.int 17)) (eIx (eVar 0) (eC (.int 2))))) (eOp addF (eC (.int 69621)) (eOp mulF (eC (.int 2)) (eIx (eVar 0) (eC (.int 2)))))) (eC (.int 2147483647)))) (sSeq (sAsg (bName 3) (eOp modF (eOp addF (eOp addF (eOp mulF (eVar 3) (eVar 3)) (eOp mulF (eC (.int 40503)) (eIx (eVar 0) (eC (.int 2))))) (eC (.int 5))) (eC (.int 2147483629)))) (sSeq (sRet (eOp modF (eOp divF (eOp modF (eOp mulF (eVar 3) (eC (.int 48271))) (eC (.int 2147483647))) (eC (.int 32))) (eVar 1))) sNil)))))
def F__law_draw : Fn := mkFn 4 f__law_draw
def f__law_pick : SF := (sSeq (sRet (eIx (eVar 1) (eCall F__law_draw (aCons (eVar 0) (aCons (eB lenF (aCons (eVar 1) aNil)) aNil))))) sNil)
def F__law_pick : Fn := mkFn 2 f__law_pick
def t__law_deal_0 : SF := (sSeq (sIf (tV (eOp gtF (eCall F__law_draw (aCons (eVar 0) (aCons (eC (.int 3)) aNil))) (eC (.int 0)))) (sSeq (sApp 3 (eTup (aCons (eVar 4) (aCons (eOp addF (eC (.int 1)) (eCall F__law_draw (aCons (eVar 0) (aCons (eB minF (aCons (eVar 5) (aCons (eVar 2) aNil))) aNil)))) aNil)))) sNil) sNil) sNil)
def w__law_deal_0 : SF := (sFor (iEnum1 (aCons (eVar 1) aNil)) (bTup ((bName 4) :: ((bName 5) :: []))) t__law_deal_0)
def f__law_deal : SF := (sSeq (sAsgO 3 (lDisp aNil)) (sSeq w__law_deal_0 (sSeq (sRet (eB tupF (aCons (eOwn 3) aNil))) sNil)))
def F__law_deal : Fn := mkFn 6 f__law_deal
def t__law_mixed_0 : SF := (sSeq (sAppPop 3 2 (eCall F__law_draw (aCons (eVar 0) (aCons (eB lenF (aCons (eOwn 2) aNil)) aNil)))) sNil)
def w__law_mixed_0 : SF := (sFor (iRng1 (aCons (eB lenF (aCons (eVar 1) aNil)) aNil)) (bName 4) t__law_mixed_0)
def f__law_mixed : SF := (sSeq (sPar [2, 3] (nCons (eNew (lB listF (aCons (eVar 1) aNil))) (nCons (eNew (lDisp aNil)) nNil))) (sSeq w__law_mixed_0 (sSeq (sRetO 3) sNil)))
def F__law_mixed : Fn := mkFn 5 f__law_mixed
def l__law_groups_0 : EF (List PV) := (lLc (iRng1 (aCons (eVar 1) aNil)) (bName 9) [9] tYesF (eTup (aCons (eVar 9) aNil)))
def l__law_groups_1 : EF (List PV) := (lLc (iRng1 (aCons (eVar 5) aNil)) (bName 10) [10] tYesF (ePopG (eVar 2) (eCall F__law_draw (aCons (eVar 0) (aCons (eLenG (eVar 2)) aNil)))))
def t__law_groups_0 : SF := (sSeq (sAsg (bName 7) (eOp addF (eVar 7) (eVar 8))) sNil)
def w__law_groups_0 : SF := (sFor (iSeq (eVar 6)) (bName 8) t__law_groups_0)
def l__law_groups_2 : EF (List PV) := (lLc (iSeq (eOwn 3)) (bName 11) [11] tYesF (eIx (eVar 11) (eC (.int 1))))
def t__law_groups_1 : SF := (sSeq (sAsg (bName 5) (eB minF (aCons (eLenG (eVar 2)) (aCons (eOp addF (eC (.int 1)) (eCall F__law_draw (aCons (eVar 0) (aCons (eC (.int 3)) aNil)))) aNil)))) (sSeq (sIf (tV (eOp gtF (eVar 5) (eC (.int 0)))) (sSeq (sAsg (bName 6) (eLst l__law_groups_1)) (sSeq (sAsg (bName 7) (eTup aNil)) (sSeq w__law_groups_0 (sSeq (sAsg (bName 7) (eB tupF (aCons (eLst (lB sortedF (aCons (eVar 7) aNil))) aNil))) (sSeq (sDrop (eAppG (eVar 2) (eVar 7))) (sSeq (sIf (tV (eOp (inD fun b => !b) (eVar 7) (eLst l__law_groups_2))) (sSeq (sApp 3 (eTup (aCons (eCall F__law_draw (aCons (eVar 0) (aCons (eOp addF (eB lenF (aCons (eVar 7) aNil)) (eC (.int 1))) aNil))) (aCons (eVar 7) aNil)))) sNil) sNil) sNil)))))) sNil) sNil))
def w__law_groups_1 : SF := (sFor (iRng1 (aCons (eCall F__law_draw (aCons (eVar 0) (aCons (eC (.int 5)) aNil))) aNil)) (bName 4) t__law_groups_1)
def f__law_groups : SF := (sSeq (sPar [2, 3] (nCons (eVal (eNewG l__law_groups_0)) (nCons (eNew (lDisp aNil)) nNil))) (sSeq w__law_groups_1 (sSeq (sFrz 3) (sSeq (sRet (eB tupF (aCons (eCall F__law_mixed (aCons (eVar 0) (aCons (eVar 3) aNil))) aNil))) sNil))))
def F__law_groups : Fn := mkFn 12 f__law_groups
def t__law_receipt_0 : SF := (sSeq (sAsg (bName 4) (eOp addF (eVar 4) (eTup (aCons (eOp addF (eC (.int 1)) (eCall F__law_draw (aCons (eVar 0) (aCons (eCall F__law_pick (aCons (eVar 0) (aCons (eLst (lDisp (aCons (eC (.int 20)) (aCons (eC (.int 90)) (aCons (eC (.int 9999)) aNil))))) aNil))) aNil)))) aNil)))) sNil)
def w__law_receipt_0 : SF := (sFor (iRng1 (aCons (eOp addF (eC (.int 1)) (eCall F__law_draw (aCons (eVar 0) (aCons (eVar 1) aNil)))) aNil)) (bName 5) t__law_receipt_0)
def l__law_receipt_0 : EF (List PV) := (lLc (iRng1 (aCons (eCall F__law_draw (aCons (eVar 0) (aCons (eOp addF (eVar 2) (eC (.int 1))) aNil))) aNil)) (bName 7) [7] tYesF (eCall F__law_deal (aCons (eVar 0) (aCons (eVar 4) (aCons (eVar 3) aNil)))))
def f__law_receipt : SF := (sSeq (sAsg (bName 3) (eCall F__law_pick (aCons (eVar 0) (aCons (eLst (lDisp (aCons (eC (.int 3)) (aCons (eC (.int 9)) (aCons (eC (.int 9)) (aCons (eC (.int 60)) (aCons (eC (.int 9999)) aNil))))))) aNil)))) (sSeq (sAsg (bName 4) (eTup aNil)) (sSeq w__law_receipt_0 (sSeq (sAsg (bName 6) (eB tupF (aCons (eLst l__law_receipt_0) aNil))) (sSeq (sRet (eTup (aCons (eVar 4) (aCons (eVar 6) (aCons (eCall F__law_groups (aCons (eVar 0) (aCons (eB lenF (aCons (eVar 6) aNil)) aNil))) aNil))))) sNil)))))
def F__law_receipt : Fn := mkFn 8 f__law_receipt
def l__law_text_0 : EF (List PV) := (lLc (iSeq (eVar 0)) (bName 7) [7] tYesF (eB strF (aCons (eVar 7) aNil)))
def l__law_text_1 : EF (List PV) := (lLc (iSeq (eVar 4)) (bTup ((bName 8) :: ((bName 9) :: []))) [8, 9] tYesF (eOp addF (eOp addF (eOp addF (eC (.str " ")) (eB strF (aCons (eVar 8) aNil))) (eC (.str ":"))) (eB strF (aCons (eVar 9) aNil))))
def t__law_text_0 : SF := (sSeq (sApp 3 (eOp addF (eC (.str "deal")) (eTx joinF (eC (.str "")) (eLst l__law_text_1)))) sNil)
def w__law_text_0 : SF := (sFor (iSeq (eVar 1)) (bName 4) t__law_text_0)
def l__law_text_2 : EF (List PV) := (lLc (iSeq (eVar 6)) (bName 10) [10] tYesF (eB strF (aCons (eVar 10) aNil)))
def t__law_text_1 : SF := (sSeq (sApp 3 (eOp addF (eOp addF (eOp addF (eC (.str "group ")) (eB strF (aCons (eVar 5) aNil))) (eC (.str " of "))) (eTx joinF (eC (.str " ")) (eLst l__law_text_2)))) sNil)
def w__law_text_1 : SF := (sFor (iSeq (eVar 2)) (bTup ((bName 5) :: ((bName 6) :: []))) t__law_text_1)
def f__law_text : SF := (sSeq (sAsgO 3 (lDisp (aCons (eOp addF (eC (.str "prices ")) (eTx joinF (eC (.str " ")) (eLst l__law_text_0))) aNil))) (sSeq w__law_text_0 (sSeq w__law_text_1 (sSeq (sRet (eOp addF (eTx joinF (eC (.str "\n")) (eOwn 3)) (eC (.str "\n")))) sNil))))
def F__law_text : Fn := mkFn 11 f__law_text
def f__law_due : SF := (sSeq (sAsg (bName 3) (eLst (lDisp (aCons (eOp addF (eB strF (aCons (eB lenF (aCons (eVar 0) aNil)) aNil)) (eC (.str " lines"))) (aCons (eOp addF (eB strF (aCons (eB lenF (aCons (eVar 1) aNil)) aNil)) (eC (.str " deals"))) (aCons (eOp addF (eB strF (aCons (eB lenF (aCons (eVar 2) aNil)) aNil)) (eC (.str " groups"))) aNil)))))) (sSeq (sAsg (bName 4) (eOp addF (eOp addF (eC (.str "Receipt(")) (eTx joinF (eC (.str ", ")) (eVar 3))) (eC (.str ")")))) (sSeq (sRet (eTup (aCons (eVar 0) (aCons (eVar 1) (aCons (eVar 2) (aCons (eB sumF (aCons (eLst (lB listF (aCons (eVar 0) aNil))) aNil)) (aCons (eB lenF (aCons (eVar 1) aNil)) (aCons (eVar 4) (aCons (eCall F__law_text (aCons (eVar 0) (aCons (eVar 1) (aCons (eVar 2) aNil)))) aNil))))))))) sNil)))
def F__law_due : Fn := mkFn 5 f__law_due
def l_number_in_0 : EF (List PV) := (lLc (iStrF (eVar 0)) (bName 1) [1] tYesF (eOp inSign (eVar 1) (eC (.str "0123456789"))))
def f_number_in : SF := (sSeq (sRet (eIf (tAndF (tV (eChain leF leF (eC (.int 1)) (eB lenF (aCons (eVar 0) aNil)) (eC (.int 4)))) (tV (eB allF (aCons (eLst l_number_in_0) aNil)))) (eB intF (aCons (eVar 0) aNil)) (eUn negF (eC (.int 1))))) sNil)
def F_number_in : Fn := mkFn 2 f_number_in
def l_numbers_in_0 : EF (List PV) := (lLc (iSeq (eLst (lTx splitF (eVar 0) (eC (.str " "))))) (bName 1) [1] tYesF (eCall F_number_in (aCons (eVar 1) aNil)))
def f_numbers_in : SF := (sSeq (sRet (eB tupF (aCons (eLst l_numbers_in_0) aNil))) sNil)
def F_numbers_in : Fn := mkFn 2 f_numbers_in
def l_deal_in_0 : EF (List PV) := (lLc (iSeq (eLst (lTx splitF (eVar 1) (eC (.str ":"))))) (bName 2) [2] tYesF (eCall F_number_in (aCons (eVar 2) aNil)))
def l_deal_in_1 : EF (List PV) := (lLc (iSeq (eSl (eLst (lTx splitF (eVar 0) (eC (.str " ")))) (oSome (eC (.int 1))) oNone)) (bName 1) [1] tYesF (eB tupF (aCons (eLst l_deal_in_0) aNil)))
def f_deal_in : SF := (sSeq (sRet (eB tupF (aCons (eLst l_deal_in_1) aNil))) sNil)
def F_deal_in : Fn := mkFn 3 f_deal_in
def f_group_in : SF := (sSeq (sAsg (bTup ((bName 1) :: ((bName 2) :: ((bName 3) :: [])))) (eTx partF (eSlS (eVar 0) (oSome (eB lenF (aCons (eC (.str "group ")) aNil))) oNone) (eC (.str " of ")))) (sSeq (sRet (eTup (aCons (eCall F_number_in (aCons (eVar 1) aNil)) (aCons (eCall F_numbers_in (aCons (eVar 3) aNil)) aNil)))) sNil))
def F_group_in : Fn := mkFn 4 f_group_in
def l_numbers_text_0 : EF (List PV) := (lLc (iSeq (eVar 0)) (bName 1) [1] tYesF (eB strF (aCons (eVar 1) aNil)))
def f_numbers_text : SF := (sSeq (sRet (eTx joinF (eC (.str " ")) (eLst l_numbers_text_0))) sNil)
def F_numbers_text : Fn := mkFn 2 f_numbers_text
def l_receipt_lines_0 : EF (List PV) := (lLc (iSeq (eVar 4)) (bTup ((bName 5) :: ((bName 6) :: []))) [5, 6] tYesF (eJStr (jCons (eC (.str " ")) (jCons (eFmt (eVar 5)) (jCons (eC (.str ":")) (jCons (eFmt (eVar 6)) jNil))))))
def t_receipt_lines_0 : SF := (sSeq (sApp 3 (eOp addF (eC (.str "deal")) (eTx joinF (eC (.str "")) (eLst l_receipt_lines_0)))) sNil)
def w_receipt_lines_0 : SF := (sFor (iSeq (eVar 1)) (bName 4) t_receipt_lines_0)
def l_receipt_lines_1 : EF (List PV) := (lLc (iSeq (eVar 2)) (bTup ((bName 7) :: ((bName 8) :: []))) [7, 8] tYesF (eOp addF (eOp addF (eOp addF (eC (.str "group ")) (eB strF (aCons (eVar 7) aNil))) (eC (.str " of "))) (eCall F_numbers_text (aCons (eVar 8) aNil))))
def f_receipt_lines : SF := (sSeq (sAsgO 3 (lDisp (aCons (eOp addF (eC (.str "prices ")) (eCall F_numbers_text (aCons (eVar 0) aNil))) aNil))) (sSeq w_receipt_lines_0 (sSeq (sRet (eOp addF (eOwn 3) (eLst l_receipt_lines_1))) sNil)))
def F_receipt_lines : Fn := mkFn 9 f_receipt_lines
def l_parts_in_0 : EF (List PV) := (lLc (iSeq (eSl (eVar 1) (oSome (eC (.int 1))) oNone)) (bName 5) [5] (tNotF (tV (eTx startF (eVar 5) (eC (.str "group "))))) (eCall F_deal_in (aCons (eVar 5) aNil)))
def l_parts_in_1 : EF (List PV) := (lLc (iSeq (eSl (eVar 1) (oSome (eC (.int 1))) oNone)) (bName 5) [5] (tV (eTx startF (eVar 5) (eC (.str "group ")))) (eCall F_group_in (aCons (eVar 5) aNil)))
def l_parts_in_2 : EF (List PV) := (lLc2 (iSeq (eVar 3)) (bName 6) [6, 7] tYesF (iSeq (eVar 6)) (bName 7) [7] tYesF (eOp eqF (eB lenF (aCons (eVar 7) aNil)) (eC (.int 2))))
def f_parts_in : SF := (sSeq (sIf (tOrF (tNotF (tV (eUn (isiF .str) (eVar 0)))) (tNotF (tV (eTx endF (eVar 0) (eC (.str "\n")))))) (sSeq sNever sNil) sNil) (sSeq (sAsg (bName 1) (eLst (lTx splitF (eSlS (eVar 0) oNone (oSome (eUn negF (eC (.int 1))))) (eC (.str "\n"))))) (sSeq (sAsg (bName 2) (eCall F_numbers_in (aCons (eSlS (eIx (eVar 1) (eC (.int 0))) (oSome (eB lenF (aCons (eC (.str "prices ")) aNil))) oNone) aNil))) (sSeq (sAsg (bName 3) (eB tupF (aCons (eLst l_parts_in_0) aNil))) (sSeq (sAsg (bName 4) (eB tupF (aCons (eLst l_parts_in_1) aNil))) (sSeq (sIf (tOrF (tNotF (tV (eB allF (aCons (eLst l_parts_in_2) aNil)))) (tV (eOp neF (eCall F_receipt_lines (aCons (eVar 2) (aCons (eVar 3) (aCons (eVar 4) aNil)))) (eVar 1)))) (sSeq sNever sNil) sNil) (sSeq (sRet (eTup (aCons (eVar 2) (aCons (eVar 3) (aCons (eVar 4) aNil))))) sNil)))))))
def F_parts_in : Fn := mkFn 8 f_parts_in
def f_is_integer : SF := (sSeq (sRet (eAnd (eUn (isiF .int) (eVar 0)) (eNot (eUn (isiF .bool) (eVar 0))))) sNil)
def F_is_integer : Fn := mkFn 1 f_is_integer
def f_is_between : SF := (sSeq (sRet (eAnd (eCall F_is_integer (aCons (eVar 0) aNil)) (eChain leF leF (eVar 1) (eVar 0) (eVar 2)))) sNil)
def F_is_between : Fn := mkFn 3 f_is_between
def l_are_prices_0 : EF (List PV) := (lLc (iSeq (eVar 0)) (bName 1) [1] tYesF (eCall F_is_between (aCons (eVar 1) (aCons (eC (.int 1)) (aCons (eC (.int 9999)) aNil)))))
def f_are_prices : SF := (sSeq (sIf (tOrF (tNotF (tV (eUn (isiF .tuple) (eVar 0)))) (tNotF (tV (eChain leF leF (eC (.int 1)) (eB lenF (aCons (eVar 0) aNil)) (eC (.int 5)))))) (sSeq (sRet (eC (.bl false))) sNil) sNil) (sSeq (sRet (eB allF (aCons (eLst l_are_prices_0) aNil))) sNil))
def F_are_prices : Fn := mkFn 2 f_are_prices
def l_is_pair_0 : EF (List PV) := (lLc (iSeq (eVar 0)) (bName 1) [1] tYesF (eCall F_is_integer (aCons (eVar 1) aNil)))
def f_is_pair : SF := (sSeq (sRet (eAnd (eUn (isiF .tuple) (eVar 0)) (eAnd (eOp eqF (eB lenF (aCons (eVar 0) aNil)) (eC (.int 2))) (eB allF (aCons (eLst l_is_pair_0) aNil))))) sNil)
def F_is_pair : Fn := mkFn 2 f_is_pair
def f_is_offer : SF := (sSeq (sRet (eAnd (eCall F_is_pair (aCons (eVar 1) aNil)) (eAnd (eChain leF ltF (eC (.int 0)) (eIx (eVar 1) (eC (.int 0))) (eB lenF (aCons (eVar 0) aNil))) (eChain leF leF (eC (.int 1)) (eIx (eVar 1) (eC (.int 1))) (eIx (eVar 0) (eIx (eVar 1) (eC (.int 0)))))))) sNil)
def F_is_offer : Fn := mkFn 2 f_is_offer
def l_rises_0 : EF (List PV) := (lLc (iZip2 (aCons (eVar 0) (aCons (eSl (eVar 0) (oSome (eC (.int 1))) oNone) aNil))) (bTup ((bName 1) :: ((bName 2) :: []))) [1, 2] tYesF (eOp ltF (eVar 1) (eVar 2)))
def f_rises : SF := (sSeq (sRet (eB allF (aCons (eLst l_rises_0) aNil))) sNil)
def F_rises : Fn := mkFn 3 f_rises
def l_is_deal_0 : EF (List PV) := (lLc (iSeq (eVar 1)) (bName 2) [2] tYesF (eCall F_is_offer (aCons (eVar 0) (aCons (eVar 2) aNil))))
def l_is_deal_1 : EF (List PV) := (lLc (iSeq (eVar 1)) (bName 2) [2] tYesF (eIx (eVar 2) (eC (.int 0))))
def f_is_deal : SF := (sSeq (sIf (tOrF (tNotF (tV (eUn (isiF .tuple) (eVar 1)))) (tNotF (tV (eB allF (aCons (eLst l_is_deal_0) aNil))))) (sSeq (sRet (eC (.bl false))) sNil) sNil) (sSeq (sRet (eCall F_rises (aCons (eLst l_is_deal_1) aNil))) sNil))
def F_is_deal : Fn := mkFn 3 f_is_deal
def l_are_deals_0 : EF (List PV) := (lLc (iSeq (eVar 1)) (bName 2) [2] tYesF (eCall F_is_deal (aCons (eVar 0) (aCons (eVar 2) aNil))))
def f_are_deals : SF := (sSeq (sRet (eAnd (eUn (isiF .tuple) (eVar 1)) (eAnd (eOp leF (eB lenF (aCons (eVar 1) aNil)) (eC (.int 5))) (eB allF (aCons (eLst l_are_deals_0) aNil))))) sNil)
def F_are_deals : Fn := mkFn 3 f_are_deals
def l_is_set_0 : EF (List PV) := (lLc (iSeq (eVar 0)) (bName 2) [2] tYesF (eCall F_is_between (aCons (eVar 2) (aCons (eC (.int 0)) (aCons (eOp subF (eVar 1) (eC (.int 1))) aNil)))))
def f_is_set : SF := (sSeq (sRet (eAnd (eUn (isiF .tuple) (eVar 0)) (eAnd (eB allF (aCons (eLst l_is_set_0) aNil)) (eCall F_rises (aCons (eVar 0) aNil))))) sNil)
def F_is_set : Fn := mkFn 3 f_is_set
def f_is_group : SF := (sSeq (sIf (tOrF (tNotF (tV (eUn (isiF .tuple) (eVar 1)))) (tOrF (tV (eOp neF (eB lenF (aCons (eVar 1) aNil)) (eC (.int 2)))) (tNotF (tV (eCall F_is_between (aCons (eIx (eVar 1) (eC (.int 0))) (aCons (eC (.int 0)) (aCons (eC (.int 5)) aNil)))))))) (sSeq (sRet (eC (.bl false))) sNil) sNil) (sSeq (sRet (eAnd (eCall F_is_set (aCons (eIx (eVar 1) (eC (.int 1))) (aCons (eVar 0) aNil))) (eOp neF (eIx (eVar 1) (eC (.int 1))) (eTup aNil)))) sNil))
def F_is_group : Fn := mkFn 2 f_is_group
def l_are_groups_0 : EF (List PV) := (lLc (iSeq (eVar 1)) (bName 2) [2] tYesF (eCall F_is_group (aCons (eVar 0) (aCons (eVar 2) aNil))))
def f_are_groups : SF := (sSeq (sRet (eAnd (eUn (isiF .tuple) (eVar 1)) (eAnd (eOp leF (eB lenF (aCons (eVar 1) aNil)) (eC (.int 5))) (eB allF (aCons (eLst l_are_groups_0) aNil))))) sNil)
def F_are_groups : Fn := mkFn 3 f_are_groups
def l_are_apart_0 : EF (List PV) := (lLc (iSeq (eVar 0)) (bName 2) [2] tYesF (eOp inF (eVar 2) (eVar 1)))
def f_are_apart : SF := (sSeq (sRet (eNot (eB anyF (aCons (eLst l_are_apart_0) aNil)))) sNil)
def F_are_apart : Fn := mkFn 3 f_are_apart
def l_is_inside_0 : EF (List PV) := (lLc (iSeq (eVar 0)) (bName 2) [2] tYesF (eOp inF (eVar 2) (eVar 1)))
def f_is_inside : SF := (sSeq (sRet (eB allF (aCons (eLst l_is_inside_0) aNil))) sNil)
def F_is_inside : Fn := mkFn 3 f_is_inside
def f_do_cross : SF := (sSeq (sRet (eOr (eOp eqF (eVar 0) (eVar 1)) (eNot (eOr (eCall F_are_apart (aCons (eVar 0) (aCons (eVar 1) aNil))) (eOr (eCall F_is_inside (aCons (eVar 0) (aCons (eVar 1) aNil))) (eCall F_is_inside (aCons (eVar 1) (aCons (eVar 0) aNil)))))))) sNil)
def F_do_cross : Fn := mkFn 2 f_do_cross
def t_first_crossed_0 : SF := (sSeq (sIf (tV (eCall F_do_cross (aCons (eIx (eVar 4) (eC (.int 1))) (aCons (eIx (eVar 2) (eC (.int 1))) aNil)))) (sSeq (sRet (eTup (aCons (eVar 3) (aCons (eVar 1) aNil)))) sNil) sNil) sNil)
def w_first_crossed_0 : SF := (sFor (iEnum1 (aCons (eSl (eVar 0) oNone (oSome (eVar 1))) aNil)) (bTup ((bName 3) :: ((bName 4) :: []))) t_first_crossed_0)
def t_first_crossed_1 : SF := (sSeq w_first_crossed_0 sNil)
def w_first_crossed_1 : SF := (sFor (iEnum1 (aCons (eVar 0) aNil)) (bTup ((bName 1) :: ((bName 2) :: []))) t_first_crossed_1)
def f_first_crossed : SF := (sSeq w_first_crossed_1 (sSeq (sRet (eC .non)) sNil))
def F_first_crossed : Fn := mkFn 5 f_first_crossed
def f_Receipt___init__ : SF := (sSeq (sIf (tNotF (tV (eCall F_are_prices (aCons (eVar 1) aNil)))) (sSeq sNever sNil) sNil) (sSeq (sIf (tNotF (tV (eCall F_are_deals (aCons (eVar 1) (aCons (eVar 2) aNil))))) (sSeq sNever sNil) sNil) (sSeq (sIf (tNotF (tV (eCall F_are_groups (aCons (eB lenF (aCons (eVar 2) aNil)) (aCons (eVar 3) aNil))))) (sSeq sNever sNil) sNil) (sSeq (sAsg (bName 4) (eCall F_first_crossed (aCons (eVar 3) aNil))) (sSeq (sIf (tV (eOp isntF (eVar 4) (eC .non))) (sSeq sNever sNil) sNil) (sSeq (sAsgX (gxTup ((gxFld "Receipt" "costs" (eVar 0)) :: ((gxFld "Receipt" "offers" (eVar 0)) :: ((gxFld "Receipt" "bounds" (eVar 0)) :: [])))) (eTup (aCons (eVar 1) (aCons (eVar 2) (aCons (eVar 3) aNil))))) sNil))))))
def F_Receipt___init__ : Fn := mkFn 5 f_Receipt___init__
def f_Receipt_read : SF := (sSeq (sAsg (bTup ((bName 2) :: ((bName 3) :: ((bName 4) :: [])))) (eCall F_parts_in (aCons (eVar 1) aNil))) (sSeq (sIf (tOrF (tNotF (tV (eCall F_are_prices (aCons (eVar 2) aNil)))) (tOrF (tNotF (tV (eCall F_are_deals (aCons (eVar 2) (aCons (eVar 3) aNil))))) (tNotF (tV (eCall F_are_groups (aCons (eB lenF (aCons (eVar 3) aNil)) (aCons (eVar 4) aNil))))))) (sSeq sNever sNil) sNil) (sSeq (sIf (tV (eOp isntF (eCall F_first_crossed (aCons (eVar 4) aNil)) (eC .non))) (sSeq sNever sNil) sNil) (sSeq (sRet (eMakeV "Receipt" F_Receipt___init__ 3 0 4 [.tup [], .tup []] [.pos 1, .pos 2, .pos 3] (eVar 0) (aCons (eVar 2) (aCons (eVar 3) (aCons (eVar 4) aNil))) aNil)) sNil))))
def F_Receipt_read : Fn := mkFn 5 f_Receipt_read
def l_Receipt_total_0 : EF (List PV) := (lLc (iSeq (eFld "Receipt" "costs" (eVar 0))) (bName 1) [1] tYesF (eVar 1))
def f_Receipt_total : SF := (sSeq (sRet (eB sumF (aCons (eLst l_Receipt_total_0) aNil))) sNil)
def F_Receipt_total : Fn := mkFn 2 f_Receipt_total
def f_Receipt_groups : SF := (sSeq (sRet (eFld "Receipt" "bounds" (eVar 0))) sNil)
def F_Receipt_groups : Fn := mkFn 1 f_Receipt_groups
def f_Receipt_deals : SF := (sSeq (sRet (eFld "Receipt" "offers" (eVar 0))) sNil)
def F_Receipt_deals : Fn := mkFn 1 f_Receipt_deals
def f_Receipt_prices : SF := (sSeq (sRet (eFld "Receipt" "costs" (eVar 0))) sNil)
def F_Receipt_prices : Fn := mkFn 1 f_Receipt_prices
def l_Receipt_text_0 : EF (List PV) := (lLc (iSeq (eCall F_receipt_lines (aCons (eFld "Receipt" "costs" (eVar 0)) (aCons (eFld "Receipt" "offers" (eVar 0)) (aCons (eFld "Receipt" "bounds" (eVar 0)) aNil))))) (bName 1) [1] tYesF (eOp addF (eVar 1) (eC (.str "\n"))))
def f_Receipt_text : SF := (sSeq (sRet (eTx joinF (eC (.str "")) (eLst l_Receipt_text_0))) sNil)
def F_Receipt_text : Fn := mkFn 2 f_Receipt_text
def f_Receipt___repr__ : SF := (sSeq (sRet (eJStr (jCons (eC (.str "Receipt(")) (jCons (eFmt (eB lenF (aCons (eFld "Receipt" "costs" (eVar 0)) aNil))) (jCons (eC (.str " lines, ")) (jCons (eFmt (eB lenF (aCons (eFld "Receipt" "offers" (eVar 0)) aNil))) (jCons (eC (.str " deals, ")) (jCons (eFmt (eB lenF (aCons (eFld "Receipt" "bounds" (eVar 0)) aNil))) (jCons (eC (.str " groups)")) jNil))))))))) sNil)
def F_Receipt___repr__ : Fn := mkFn 1 f_Receipt___repr__
def f_Receipt___len__ : SF := (sSeq (sRet (eB lenF (aCons (eFld "Receipt" "offers" (eVar 0)) aNil))) sNil)
def F_Receipt___len__ : Fn := mkFn 1 f_Receipt___len__
def f__law_seen : SF := (sSeq (sAsg (bName 1) (eTup (aCons (eProp "Receipt" F_Receipt_prices (eVar 0)) (aCons (eProp "Receipt" F_Receipt_deals (eVar 0)) (aCons (eProp "Receipt" F_Receipt_groups (eVar 0)) (aCons (eProp "Receipt" F_Receipt_total (eVar 0)) aNil)))))) (sSeq (sRet (eOp addF (eVar 1) (eTup (aCons (eOwn1 "Receipt" zLen F_Receipt___len__ (eVar 0)) (aCons (eOwn1 "Receipt" zStr F_Receipt___repr__ (eVar 0)) (aCons (eMeth "Receipt" "text" F_Receipt_text (eVar 0) aNil) aNil)))))) sNil))
def F__law_seen : Fn := mkFn 2 f__law_seen
def f__law_same : SF := (sSeq (sRet (eOp eqF (eB reprF (aCons (eVar 0) aNil)) (eB reprF (aCons (eVar 1) aNil)))) sNil)
def F__law_same : Fn := mkFn 2 f__law_same
def f_Receipt___add__ : SF := (sSeq (sIf (tNotF (tV (eCall F_is_deal (aCons (eFld "Receipt" "costs" (eVar 0)) (aCons (eVar 1) aNil))))) (sSeq sNever sNil) sNil) (sSeq (sIf (tV (eOp eqF (eB lenF (aCons (eFld "Receipt" "offers" (eVar 0)) aNil)) (eC (.int 5)))) (sSeq sNever sNil) sNil) (sSeq (sRet (eMake "Receipt" F_Receipt___init__ 3 0 4 [.tup [], .tup []] [.pos 1, .pos 2, .pos 3] (aCons (eFld "Receipt" "costs" (eVar 0)) (aCons (eOp addF (eFld "Receipt" "offers" (eVar 0)) (eTup (aCons (eVar 1) aNil))) (aCons (eFld "Receipt" "bounds" (eVar 0)) aNil))) aNil)) sNil)))
def F_Receipt___add__ : Fn := mkFn 2 f_Receipt___add__
def l_groups_without_0 : EF (List PV) := (lLc (iSeq (eVar 4)) (bName 6) [6] (tV (eOp neF (eVar 6) (eVar 1))) (eOp subF (eVar 6) (eB intF (aCons (eOp gtF (eVar 6) (eVar 1)) aNil))))
def t_groups_without_0 : SF := (sSeq (sAsg (bName 5) (eB tupF (aCons (eLst l_groups_without_0) aNil))) (sSeq (sIf (tV (eOp neF (eVar 5) (eTup aNil))) (sSeq (sPutT (eVar 2) (eVar 5) (eB minF (aCons (eVar 3) (aCons (eGetT2 (eVar 2) (eVar 5) (eVar 3)) aNil)))) sNil) sNil) sNil))
def w_groups_without_0 : SF := (sFor (iSeq (eVar 0)) (bTup ((bName 3) :: ((bName 4) :: []))) t_groups_without_0)
def l_groups_without_1 : EF (List PV) := (lItemsT 2 5 3)
def f_groups_without : SF := (sSeq (sAsg (bName 2) eNewT) (sSeq w_groups_without_0 (sSeq (sRet (eB tupF (aCons (eLst l_groups_without_1) aNil))) sNil)))
def F_groups_without : Fn := dropF (mkFn 7 f_groups_without)
def f_Receipt___sub__ : SF := (sSeq (sIf (tNotF (tV (eCall F_is_between (aCons (eVar 1) (aCons (eC (.int 0)) (aCons (eOp subF (eB lenF (aCons (eFld "Receipt" "offers" (eVar 0)) aNil)) (eC (.int 1))) aNil)))))) (sSeq sNever sNil) sNil) (sSeq (sAsg (bName 2) (eOp addF (eSl (eFld "Receipt" "offers" (eVar 0)) oNone (oSome (eVar 1))) (eSl (eFld "Receipt" "offers" (eVar 0)) (oSome (eOp addF (eVar 1) (eC (.int 1)))) oNone))) (sSeq (sRet (eMake "Receipt" F_Receipt___init__ 3 0 4 [.tup [], .tup []] [.pos 1, .pos 2, .pos 3] (aCons (eFld "Receipt" "costs" (eVar 0)) (aCons (eVar 2) (aCons (eCall F_groups_without (aCons (eFld "Receipt" "bounds" (eVar 0)) (aCons (eVar 1) aNil))) aNil))) aNil)) sNil)))
def F_Receipt___sub__ : Fn := mkFn 3 f_Receipt___sub__
def f_Receipt_limited : SF := (sSeq (sIf (tNotF (tV (eCall F_is_between (aCons (eVar 1) (aCons (eC (.int 0)) (aCons (eOp subF (eB lenF (aCons (eFld "Receipt" "bounds" (eVar 0)) aNil)) (eC (.int 1))) aNil)))))) (sSeq sNever sNil) sNil) (sSeq (sIf (tNotF (tV (eCall F_is_between (aCons (eVar 2) (aCons (eC (.int 0)) (aCons (eC (.int 5)) aNil)))))) (sSeq sNever sNil) sNil) (sSeq (sAsg (bName 3) (eTup (aCons (eVar 2) (aCons (eIx (eIx (eFld "Receipt" "bounds" (eVar 0)) (eVar 1)) (eC (.int 1))) aNil)))) (sSeq (sRet (eMake "Receipt" F_Receipt___init__ 3 0 4 [.tup [], .tup []] [.pos 1, .pos 2, .pos 3] (aCons (eFld "Receipt" "costs" (eVar 0)) (aCons (eFld "Receipt" "offers" (eVar 0)) (aCons (eOp addF (eOp addF (eSl (eFld "Receipt" "bounds" (eVar 0)) oNone (oSome (eVar 1))) (eTup (aCons (eVar 3) aNil))) (eSl (eFld "Receipt" "bounds" (eVar 0)) (oSome (eOp addF (eVar 1) (eC (.int 1)))) oNone)) aNil))) aNil)) sNil))))
def F_Receipt_limited : Fn := mkFn 4 f_Receipt_limited
def t__law_family_0 : SF := (sSeq (sApp 2 (eBinO "Receipt" isIntP F_Receipt___sub__ (eVar 1) (eVar 3))) sNil)
def w__law_family_0 : SF := (sFor (iRng1 (aCons (eOwn1 "Receipt" zLen F_Receipt___len__ (eVar 1)) aNil)) (bName 3) t__law_family_0)
def t__law_family_1 : SF := (sSeq (sApp 2 (eMeth "Receipt" "limited" F_Receipt_limited (eVar 1) (aCons (eVar 3) (aCons (eCall F__law_draw (aCons (eVar 0) (aCons (eC (.int 6)) aNil))) aNil)))) sNil)
def w__law_family_1 : SF := (sFor (iRng1 (aCons (eB lenF (aCons (eProp "Receipt" F_Receipt_groups (eVar 1)) aNil)) aNil)) (bName 3) t__law_family_1)
def f__law_family : SF := (sSeq (sAsgO 2 (lDisp (aCons (eVar 1) (aCons (eMake "Receipt" F_Receipt___init__ 2 0 4 [.tup [], .tup []] [.pos 1, .pos 2, .dfl 1] (aCons (eProp "Receipt" F_Receipt_prices (eVar 1)) (aCons (eRev (eProp "Receipt" F_Receipt_deals (eVar 1))) aNil)) aNil) (aCons (eMake "Receipt" F_Receipt___init__ 2 0 4 [.tup [], .tup []] [.pos 1, .pos 2, .dfl 1] (aCons (eProp "Receipt" F_Receipt_prices (eVar 1)) (aCons (eProp "Receipt" F_Receipt_deals (eVar 1)) aNil)) aNil) aNil))))) (sSeq (sIf (tV (eOp ltF (eOwn1 "Receipt" zLen F_Receipt___len__ (eVar 1)) (eC (.int 5)))) (sSeq (sAsgO 2 (lAdd (eOwn 2) (eLst (lDisp (aCons (eBinO "Receipt" isTupP F_Receipt___add__ (eVar 1) (eTup aNil)) (aCons (eBinO "Receipt" isTupP F_Receipt___add__ (eVar 1) (eCall F__law_deal (aCons (eVar 0) (aCons (eProp "Receipt" F_Receipt_prices (eVar 1)) (aCons (eC (.int 9999)) aNil))))) aNil)))))) sNil) sNil) (sSeq w__law_family_0 (sSeq w__law_family_1 (sSeq (sRetO 2) sNil)))))
def F__law_family : Fn := mkFn 4 f__law_family
def f_Receipt___eq__ : SF := (sSeq (sIf (tNotF (tV (eIsO [("Receipt", true)] (eVar 1)))) (sSeq (sRet (eC (.bl false))) sNil) sNil) (sSeq (sRet (eAnd (eOp eqF (eFld "Receipt" "costs" (eVar 0)) (eFld "Receipt" "costs" (eVar 1))) (eAnd (eOp eqF (eFld "Receipt" "offers" (eVar 0)) (eFld "Receipt" "offers" (eVar 1))) (eOp eqF (eFld "Receipt" "bounds" (eVar 0)) (eFld "Receipt" "bounds" (eVar 1)))))) sNil))
def F_Receipt___eq__ : Fn := mkFn 2 f_Receipt___eq__
def t_law_0 : SF := (sSeq (sAsg (bName 10) (eCMeth "Receipt" F_Receipt_read (aCons (eVar 7) aNil))) (sSeq (sIf (tNotF (tV (eCall F__law_same (aCons (eLst (lDisp (aCons (eMeth "Receipt" "text" F_Receipt_text (eVar 10) aNil) (aCons (eCall F__law_seen (aCons (eVar 10) aNil)) aNil)))) (aCons (eLst (lDisp (aCons (eVar 7) (aCons (eVar 8) aNil)))) aNil))))) (sSeq (sRet (eC (.bl false))) sNil) sNil) sNil))
def w_law_0 : SF := (sFor (iRng1 (aCons (eC (.int 2)) aNil)) (bName 9) t_law_0)
def l_law_0 : EF (List PV) := (lLc (iSeq (eVar 11)) (bName 13) [13] (tV (eOp neF (eCmpO "Receipt" false F_Receipt___eq__ (eVar 12) (eVar 13)) (eOp eqF (eMeth "Receipt" "text" F_Receipt_text (eVar 12) aNil) (eMeth "Receipt" "text" F_Receipt_text (eVar 13) aNil)))) (eC (.int 1)))
def t_law_1 : SF := (sSeq (sIf (tOrF (tNotF (tV (eCmpO "Receipt" false F_Receipt___eq__ (eCMeth "Receipt" F_Receipt_read (aCons (eMeth "Receipt" "text" F_Receipt_text (eVar 12) aNil) aNil)) (eVar 12)))) (tNotF (tV (eCall F__law_same (aCons (eMeth "Receipt" "text" F_Receipt_text (eCMeth "Receipt" F_Receipt_read (aCons (eMeth "Receipt" "text" F_Receipt_text (eVar 12) aNil) aNil)) aNil) (aCons (eMeth "Receipt" "text" F_Receipt_text (eVar 12) aNil) aNil)))))) (sSeq (sRet (eC (.bl false))) sNil) sNil) (sSeq (sIf (tV (eOp neF (eLst l_law_0) (eLst (lDisp aNil)))) (sSeq (sRet (eC (.bl false))) sNil) sNil) sNil))
def w_law_1 : SF := (sFor (iSeq (eVar 11)) (bName 12) t_law_1)
def t_law_2 : SF := (sSeq (sAsg (bTup ((bName 4) :: ((bName 5) :: ((bName 6) :: [])))) (eCall F__law_receipt (aCons (eVar 2) (aCons (eC (.int 5)) (aCons (eC (.int 5)) aNil))))) (sSeq (sPar [7, 8] (nCons (eVal (eCall F__law_text (aCons (eVar 4) (aCons (eVar 5) (aCons (eVar 6) aNil))))) (nCons (eVal (eCall F__law_due (aCons (eVar 4) (aCons (eVar 5) (aCons (eVar 6) aNil))))) nNil))) (sSeq w_law_0 (sSeq (sAsg (bName 11) (eCall F__law_family (aCons (eVar 2) (aCons (eVar 10) aNil)))) (sSeq w_law_1 sNil)))))
def w_law_2 : SF := (sFor (iRng1 (aCons (eC (.int 7)) aNil)) (bName 3) t_law_2)
def t_law_3 : SF := (sSeq (sAsg (bName 2) (eCall F__law_pen (aCons (eVar 1) aNil))) (sSeq w_law_2 sNil))
def w_law_3 : SF := (sFor (iSeq (eOp addF (eLst (lDisp (aCons (eCall F__law_cell_at (aCons (eVar 0) (aCons (eC (.int 0)) aNil))) aNil))) (eSl (eVar 0) (oSome (eC (.int 1))) (oSome (eC (.int 3)))))) (bName 1) t_law_3)
def f_law : SF := (sSeq w_law_3 (sSeq (sRet (eCall F__law_same (aCons (eMeth "Receipt" "text" F_Receipt_text (eMake "Receipt" F_Receipt___init__ 1 0 4 [.tup [], .tup []] [.pos 1, .dfl 0, .dfl 1] (aCons (eTup (aCons (eC (.int 7)) aNil)) aNil) aNil) aNil) (aCons (eC (.str "prices 7\n")) aNil)))) sNil))
def F_law : Fn := mkFn 14 f_law
end
end Q09
namespace Q09
open PySem PySem.Spec PyProof.Rows L2 PL
def sh_Receipt : List (Nat × List Str × List Src) := [(3, [], [.pos 1, .pos 2, .pos 3]), (2, [], [.pos 1, .pos 2, .dfl 1]), (1, [], [.pos 1, .dfl 0, .dfl 1])]
structure Fc (K : PySem.W.Frag) (mg : Str → Option Value) : Prop where
  len : mg "len" = none
  max : mg "max" = none
  range : mg "range" = none
  tuple : mg "tuple" = none
  enumerate : mg "enumerate" = none
  min : mg "min" = none
  sorted : mg "sorted" = none
  list : mg "list" = none
  str : mg "str" = none
  sum : mg "sum" = none
  isinstance : mg "isinstance" = none
  PRICES : ∃ t, mg "PRICES" = some (.str "prices " t)
  all : mg "all" = none
  FIGURES : ∃ t, mg "FIGURES" = some (.str "0123456789" t)
  int : mg "int" = none
  GROUP : ∃ t, mg "GROUP" = some (.str "group " t)
  COLON : ∃ t, mg "COLON" = some (.str ":" t)
  OF : ∃ t, mg "OF" = some (.str " of " t)
  DEAL : ∃ t, mg "DEAL" = some (.str "deal" t)
  MOST_LINES : ∃ t, mg "MOST_LINES" = some (.int 5 t)
  MOST_PRICE : ∃ t, mg "MOST_PRICE" = some (.int 9999 t)
  bool : mg "bool" = none
  MOST_DEALS : ∃ t, mg "MOST_DEALS" = some (.int 5 t)
  zip : mg "zip" = none
  MOST_GROUPS : ∃ t, mg "MOST_GROUPS" = some (.int 5 t)
  MOST_LIMIT : ∃ t, mg "MOST_LIMIT" = some (.int 5 t)
  any : mg "any" = none
  cls_Receipt : Cls K (He.ga K "Receipt")
  na_Receipt_bounds : NoAttr K (He.ga K "Receipt") "bounds"
  na_Receipt_offers : NoAttr K (He.ga K "Receipt") "offers"
  na_Receipt_costs : NoAttr K (He.ga K "Receipt") "costs"
  glo_Receipt : mg "Receipt" = some (.ref (He.ga K "Receipt"))
  mk_Receipt : Mk K (He.ga K "Receipt") (He.ma K (He.ga K "Receipt") "__init__")
  crd_Receipt : ClX.CRead K (He.ga K "Receipt") (.type "type")
  cm_Receipt_read : ClX.CMet K (He.ga K "Receipt") (.type "type") "read" (entC K "Receipt" "read") (cmA K "Receipt" "read")
  pr_Receipt_total : PropOf K (He.ga K "Receipt") "total" (entA K "Receipt" "total") (prA K "Receipt" "total")
  pr_Receipt_groups : PropOf K (He.ga K "Receipt") "groups" (entA K "Receipt" "groups") (prA K "Receipt" "groups")
  pr_Receipt_deals : PropOf K (He.ga K "Receipt") "deals" (entA K "Receipt" "deals") (prA K "Receipt" "deals")
  pr_Receipt_prices : PropOf K (He.ga K "Receipt") "prices" (entA K "Receipt" "prices") (prA K "Receipt" "prices")
  me_Receipt_text : Meth K (He.ga K "Receipt") "text" (He.ma K (He.ga K "Receipt") "text")
  repr : mg "repr" = none
  me_Receipt___repr__ : Meth K (He.ga K "Receipt") "__repr__" (He.ma K (He.ga K "Receipt") "__repr__")
  me_Receipt___len__ : Meth K (He.ga K "Receipt") "__len__" (He.ma K (He.ga K "Receipt") "__len__")
  bin_Receipt_Add : PySem.W.BinT K (He.ga K "Receipt") .Add "tuple"
  me_Receipt___add__ : Meth K (He.ga K "Receipt") "__add__" (He.ma K (He.ga K "Receipt") "__add__")
  bin_Receipt_Sub : PySem.W.BinT K (He.ga K "Receipt") .Sub "int"
  me_Receipt___sub__ : Meth K (He.ga K "Receipt") "__sub__" (He.ma K (He.ga K "Receipt") "__sub__")
  me_Receipt_limited : Meth K (He.ga K "Receipt") "limited" (He.ma K (He.ga K "Receipt") "limited")
  iso_Receipt : InsOf K "Receipt" [("Receipt", true)]
  me_Receipt___eq__ : Meth K (He.ga K "Receipt") "__eq__" (He.ma K (He.ga K "Receipt") "__eq__")
section
variable {Zg : Prop} {P : Program} {w : World} {K : PySem.W.Frag} {mg : Str → Option Value} {base : Heap} {a : Addr} {fd : FuncData} {dvs : List V}
theorem sc__law_cell_at : FnScope ["_law_script", "_law_k"] ["_law_script", "_law_k"] (defScope (top 57)) := ⟨rfl, rfl, rfl, by decide +kernel, rfl, by decide +kernel, by decide +kernel⟩
theorem ok__law_cell_at (A : Fc K mg) (F : FnQ K "_law_cell_at" "_law_cell_at" (top 57) [] a fd)  : FnG Zg P w K mg base 1 a fd ["_law_script", "_law_k"] (spF K 2 F__law_cell_at) :=
  have S := sc__law_cell_at
  fnG_of F S (by decide) fun cdv A' outer s H E hr hgd =>
    have tk : Takes (cxOf (L2.CX P w) P w K mg base ["_law_script", "_law_k"] "_law_cell_at" (defScope (top 57)) a cdv A' outer s H E) (WE E) := takes_of rfl rfl rfl rfl
    have ps : PassesOwn (model P w) (cxOf (L2.CX P w) P w K mg base ["_law_script", "_law_k"] "_law_cell_at" (defScope (top 57)) a cdv A' outer s H E).A (cxOf (L2.CX P w) P w K mg base ["_law_script", "_law_k"] "_law_cell_at" (defScope (top 57)) a cdv A' outer s H E).env (cxOf (L2.CX P w) P w K mg base ["_law_script", "_law_k"] "_law_cell_at" (defScope (top 57)) a cdv A' outer s H E).xe := passes_of rfl
    (mss_cons (ms_if (gt_cmp (o_lt hr) (ME.mb (gv 1)) (ME.mb (g_len A.len (mab_cons (ME.mb (gv 0)) mab_nil)))) (mss_cons (ms_ret (g_ix (ME.mb (gv 0)) (gv 1))) mss_nil) mss_nil) (mss_cons (ms_ret m_int) mss_nil))
theorem sc__law_pen : FnScope ["_law_cell"] ["_law_cell"] (defScope (top 58)) := ⟨rfl, rfl, rfl, by decide +kernel, rfl, by decide +kernel, by decide +kernel⟩
theorem ok__law_pen (A : Fc K mg) (F : FnQ K "_law_pen" "_law_pen" (top 58) [] a fd)  : FnG Zg P w K mg base 1 a fd ["_law_cell"] (spF K 1 F__law_pen) :=
  have S := sc__law_pen
  fnG_of F S (by decide) fun cdv A' outer s H E hr hgd =>
    have tk : Takes (cxOf (L2.CX P w) P w K mg base ["_law_cell"] "_law_pen" (defScope (top 58)) a cdv A' outer s H E) (WE E) := takes_of rfl rfl rfl rfl
    have ps : PassesOwn (model P w) (cxOf (L2.CX P w) P w K mg base ["_law_cell"] "_law_pen" (defScope (top 58)) a cdv A' outer s H E).A (cxOf (L2.CX P w) P w K mg base ["_law_cell"] "_law_pen" (defScope (top 58)) a cdv A' outer s H E).env (cxOf (L2.CX P w) P w K mg base ["_law_cell"] "_law_pen" (defScope (top 58)) a cdv A' outer s H E).xe := passes_of rfl
    (mss_cons (ms_retG (ml_lst (ma_cons (g_max A.max (mab_cons (ME.mb m_int) (mab_cons (ME.mb (m_op p_sub (ME.mb (gv 0)) (ME.mb (m_op p_pow (ME.mb m_int) (ME.mb m_int))))) mab_nil))) (ma_cons (m_op p_mod (ME.mb (gv 0)) (ME.mb m_int)) (ma_cons m_int ma_nil))))) mss_nil)
theorem sc__law_draw : FnScope ["_law_pen_here", "_law_count", "_law_digit", "_law_stir"] ["_law_pen_here", "_law_count"] (defScope (top 55)) := ⟨rfl, rfl, rfl, by decide +kernel, rfl, by decide +kernel, by decide +kernel⟩
theorem ok__law_draw (A : Fc K mg) (F : FnQ K "_law_draw" "_law_draw" (top 55) [] a fd)  : FnG Zg P w K mg base 1 a fd ["_law_pen_here", "_law_count"] (spF K 2 F__law_draw) :=
  have S := sc__law_draw
  fnG_of F S (by decide) fun cdv A' outer s H E hr hgd =>
    have tk : Takes (cxOf (L2.CX P w) P w K mg base ["_law_pen_here", "_law_count", "_law_digit", "_law_stir"] "_law_draw" (defScope (top 55)) a cdv A' outer s H E) (WE E) := takes_of rfl rfl rfl rfl
    have ps : PassesOwn (model P w) (cxOf (L2.CX P w) P w K mg base ["_law_pen_here", "_law_count", "_law_digit", "_law_stir"] "_law_draw" (defScope (top 55)) a cdv A' outer s H E).A (cxOf (L2.CX P w) P w K mg base ["_law_pen_here", "_law_count", "_law_digit", "_law_stir"] "_law_draw" (defScope (top 55)) a cdv A' outer s H E).env (cxOf (L2.CX P w) P w K mg base ["_law_pen_here", "_law_count", "_law_digit", "_law_stir"] "_law_draw" (defScope (top 55)) a cdv A' outer s H E).xe := passes_of rfl
    (mss_cons (ms_if (gt_cmp o_gt (ME.mb (g_ix (ME.mb (gv 0)) m_int)) (ME.mb m_int)) (mss_cons (g_set 2 S.nd (m_op p_mod (ME.mb (g_ix (ME.mb (gv 0)) m_int)) (ME.mb (gv 1)))) (mss_cons (ms_setG (m_op p_div (ME.mb (g_ix (ME.mb (gv 0)) m_int)) (ME.mb (gv 1))) (gv 0) m_int) (mss_cons (ms_ret (gv 2)) mss_nil))) mss_nil) (mss_cons (ms_setG (m_op p_add (ME.mb (g_ix (ME.mb (gv 0)) m_int)) (ME.mb m_int)) (gv 0) m_int) (mss_cons (g_set 3 S.nd (m_op p_mod (ME.mb (m_op p_mul (ME.mb (m_op p_add (ME.mb (g_ix (ME.mb (gv 0)) m_int)) (ME.mb (m_op p_mul (ME.mb m_int) (ME.mb (g_ix (ME.mb (gv 0)) m_int)))))) (ME.mb (m_op p_add (ME.mb m_int) (ME.mb (m_op p_mul (ME.mb m_int) (ME.mb (g_ix (ME.mb (gv 0)) m_int)))))))) (ME.mb m_int))) (mss_cons (g_set 3 S.nd (m_op p_mod (ME.mb (m_op p_add (ME.mb (m_op p_add (ME.mb (m_op p_mul (ME.mb (gv 3)) (ME.mb (gv 3)))) (ME.mb (m_op p_mul (ME.mb m_int) (ME.mb (g_ix (ME.mb (gv 0)) m_int)))))) (ME.mb m_int))) (ME.mb m_int))) (mss_cons (ms_ret (m_op p_mod (ME.mb (m_op p_div (ME.mb (m_op p_mod (ME.mb (m_op p_mul (ME.mb (gv 3)) (ME.mb m_int))) (ME.mb m_int))) (ME.mb m_int))) (ME.mb (gv 1)))) mss_nil)))))
theorem sc__law_pick : FnScope ["_law_pen_here", "_law_some"] ["_law_pen_here", "_law_some"] (defScope (top 59)) := ⟨rfl, rfl, rfl, by decide +kernel, rfl, by decide +kernel, by decide +kernel⟩
theorem ok__law_pick (A : Fc K mg) (F : FnQ K "_law_pick" "_law_pick" (top 59) [] a fd) (c__law_draw : Cal Zg P w K mg base 1 "_law_draw" ["_law_pen_here", "_law_count"] F__law_draw) : FnG Zg P w K mg base 2 a fd ["_law_pen_here", "_law_some"] (spF K 2 F__law_pick) :=
  have S := sc__law_pick
  fnG_of F S (by decide) fun cdv A' outer s H E hr hgd =>
    have tk : Takes (cxOf (L2.CX P w) P w K mg base ["_law_pen_here", "_law_some"] "_law_pick" (defScope (top 59)) a cdv A' outer s H E) (WE E) := takes_of rfl rfl rfl rfl
    have ps : PassesOwn (model P w) (cxOf (L2.CX P w) P w K mg base ["_law_pen_here", "_law_some"] "_law_pick" (defScope (top 59)) a cdv A' outer s H E).A (cxOf (L2.CX P w) P w K mg base ["_law_pen_here", "_law_some"] "_law_pick" (defScope (top 59)) a cdv A' outer s H E).env (cxOf (L2.CX P w) P w K mg base ["_law_pen_here", "_law_some"] "_law_pick" (defScope (top 59)) a cdv A' outer s H E).xe := passes_of rfl
    (mss_cons (ms_ret (g_ix (ME.mb (gv 1)) (g_call c__law_draw hr hgd tk (ma_cons (gv 0) (ma_cons (g_len A.len (mab_cons (ME.mb (gv 1)) mab_nil)) ma_nil)) (alen_cons (alen_cons alen_nil))))) mss_nil)
theorem sc__law_deal : FnScope ["_law_pen_here", "_law_prices", "_law_most", "_law_found", "_law_line", "_law_price"] ["_law_pen_here", "_law_prices", "_law_most"] (defScope (top 56)) := ⟨rfl, rfl, rfl, by decide +kernel, rfl, by decide +kernel, by decide +kernel⟩
theorem ok__law_deal (A : Fc K mg) (F : FnQ K "_law_deal" "_law_deal" (top 56) [] a fd) (c__law_draw : Cal Zg P w K mg base 1 "_law_draw" ["_law_pen_here", "_law_count"] F__law_draw) : FnG Zg P w K mg base 2 a fd ["_law_pen_here", "_law_prices", "_law_most"] (spF K 3 F__law_deal) :=
  have S := sc__law_deal
  fnG_of F S (by decide) fun cdv A' outer s H E hr hgd =>
    have tk : Takes (cxOf (L2.CX P w) P w K mg base ["_law_pen_here", "_law_prices", "_law_most", "_law_found", "_law_line", "_law_price"] "_law_deal" (defScope (top 56)) a cdv A' outer s H E) (WE E) := takes_of rfl rfl rfl rfl
    have ps : PassesOwn (model P w) (cxOf (L2.CX P w) P w K mg base ["_law_pen_here", "_law_prices", "_law_most", "_law_found", "_law_line", "_law_price"] "_law_deal" (defScope (top 56)) a cdv A' outer s H E).A (cxOf (L2.CX P w) P w K mg base ["_law_pen_here", "_law_prices", "_law_most", "_law_found", "_law_line", "_law_price"] "_law_deal" (defScope (top 56)) a cdv A' outer s H E).env (cxOf (L2.CX P w) P w K mg base ["_law_pen_here", "_law_prices", "_law_most", "_law_found", "_law_line", "_law_price"] "_law_deal" (defScope (top 56)) a cdv A' outer s H E).xe := passes_of rfl
    (mss_cons (g_setO 3 S.nd (ml_lst ma_nil)) (mss_cons (ms_for ps rfl (mi_enum rfl A.enumerate (ma_cons (gv 1) ma_nil)) (mg_tup rfl (mgs_cons (g_nm 4 S.nd) (mgs_cons (g_nm 5 S.nd) mgs_nil))) (mss_cons (ms_if (gt_cmp o_gt (ME.mb (g_call c__law_draw hr hgd tk (ma_cons (gv 0) (ma_cons m_int ma_nil)) (alen_cons (alen_cons alen_nil)))) (ME.mb m_int)) (mss_cons (g_app 3 (m_tup (ma_cons (gv 4) (ma_cons (m_op p_add (ME.mb m_int) (ME.mb (g_call c__law_draw hr hgd tk (ma_cons (gv 0) (ma_cons (g_min A.min (mab_cons (ME.mb (gv 5)) (mab_cons (ME.mb (gv 2)) mab_nil))) ma_nil)) (alen_cons (alen_cons alen_nil))))) ma_nil)))) mss_nil) mss_nil) mss_nil)) (mss_cons (ms_ret (g_tuple A.tuple (mab_cons (go 3) mab_nil))) mss_nil)))
theorem sc__law_mixed : FnScope ["_law_pen_here", "_law_things", "_law_rest", "_law_found", "_law_turn"] ["_law_pen_here", "_law_things"] (defScope (top 60)) := ⟨rfl, rfl, rfl, by decide +kernel, rfl, by decide +kernel, by decide +kernel⟩
theorem ok__law_mixed (A : Fc K mg) (F : FnQ K "_law_mixed" "_law_mixed" (top 60) [] a fd) (c__law_draw : Cal Zg P w K mg base 1 "_law_draw" ["_law_pen_here", "_law_count"] F__law_draw) : FnG Zg P w K mg base 2 a fd ["_law_pen_here", "_law_things"] (spF K 2 F__law_mixed) :=
  have S := sc__law_mixed
  fnG_of F S (by decide) fun cdv A' outer s H E hr hgd =>
    have tk : Takes (cxOf (L2.CX P w) P w K mg base ["_law_pen_here", "_law_things", "_law_rest", "_law_found", "_law_turn"] "_law_mixed" (defScope (top 60)) a cdv A' outer s H E) (WE E) := takes_of rfl rfl rfl rfl
    have ps : PassesOwn (model P w) (cxOf (L2.CX P w) P w K mg base ["_law_pen_here", "_law_things", "_law_rest", "_law_found", "_law_turn"] "_law_mixed" (defScope (top 60)) a cdv A' outer s H E).A (cxOf (L2.CX P w) P w K mg base ["_law_pen_here", "_law_things", "_law_rest", "_law_found", "_law_turn"] "_law_mixed" (defScope (top 60)) a cdv A' outer s H E).env (cxOf (L2.CX P w) P w K mg base ["_law_pen_here", "_law_things", "_law_rest", "_law_found", "_law_turn"] "_law_mixed" (defScope (top 60)) a cdv A' outer s H E).xe := passes_of rfl
    (mss_cons (ms_par (mns_cons (ML.mn (g_list A.list (mab_cons (ME.mb (gv 1)) mab_nil))) (mns_cons (ML.mn (ml_lst ma_nil)) mns_nil)) rfl S.nd (i := 2) (j := 3) rfl rfl (by decide) rfl rfl (by rfl)) (mss_cons (ms_for ps rfl (mi_range1 rfl A.range (ma_cons (g_len A.len (mab_cons (ME.mb (gv 1)) mab_nil)) ma_nil)) (g_nm 4 S.nd) (mss_cons (g_appPop 3 2 (g_call c__law_draw hr hgd tk (ma_cons (gv 0) (ma_cons (g_len A.len (mab_cons (go 2) mab_nil)) ma_nil)) (alen_cons (alen_cons alen_nil)))) mss_nil)) (mss_cons (ms_retO (i := 3) rfl (by first | exact .inl rfl | exact .inr (.inl rfl))) mss_nil)))
theorem sc__law_groups : FnScope ["_law_pen_here", "_law_many", "_law_blocks", "_law_found", "_law_turn", "_law_size", "_law_some", "_law_wide", "_law_block", "_law_deal_here", "_law_part", "_law_group"] ["_law_pen_here", "_law_many"] (defScope (top 61)) := ⟨rfl, rfl, rfl, by decide +kernel, rfl, by decide +kernel, by decide +kernel⟩
theorem ok__law_groups (A : Fc K mg) (F : FnQ K "_law_groups" "_law_groups" (top 61) [] a fd) (c__law_draw : Cal Zg P w K mg base 1 "_law_draw" ["_law_pen_here", "_law_count"] F__law_draw) (c__law_mixed : Cal Zg P w K mg base 2 "_law_mixed" ["_law_pen_here", "_law_things"] F__law_mixed) : FnG Zg P w K mg base 3 a fd ["_law_pen_here", "_law_many"] (spF K 2 F__law_groups) :=
  have S := sc__law_groups
  fnG_of F S (by decide) fun cdv A' outer s H E hr hgd =>
    have tk : Takes (cxOf (L2.CX P w) P w K mg base ["_law_pen_here", "_law_many", "_law_blocks", "_law_found", "_law_turn", "_law_size", "_law_some", "_law_wide", "_law_block", "_law_deal_here", "_law_part", "_law_group"] "_law_groups" (defScope (top 61)) a cdv A' outer s H E) (WE E) := takes_of rfl rfl rfl rfl
    have ps : PassesOwn (model P w) (cxOf (L2.CX P w) P w K mg base ["_law_pen_here", "_law_many", "_law_blocks", "_law_found", "_law_turn", "_law_size", "_law_some", "_law_wide", "_law_block", "_law_deal_here", "_law_part", "_law_group"] "_law_groups" (defScope (top 61)) a cdv A' outer s H E).A (cxOf (L2.CX P w) P w K mg base ["_law_pen_here", "_law_many", "_law_blocks", "_law_found", "_law_turn", "_law_size", "_law_some", "_law_wide", "_law_block", "_law_deal_here", "_law_part", "_law_group"] "_law_groups" (defScope (top 61)) a cdv A' outer s H E).env (cxOf (L2.CX P w) P w K mg base ["_law_pen_here", "_law_many", "_law_blocks", "_law_found", "_law_turn", "_law_size", "_law_some", "_law_wide", "_law_block", "_law_deal_here", "_law_part", "_law_group"] "_law_groups" (defScope (top 61)) a cdv A' outer s H E).xe := passes_of rfl
    (mss_cons (ms_parU (mns_cons (ME.mn (m_newG (ml_lc (own := [("_law_deal_here", 9)]) bok_name rfl S.nd (MI.toC (mi_range1 rfl A.range (ma_cons (gv 1) ma_nil))) (blkOk_by (by rfl)) (fun _ _ _ _ _ => (g_nm 9 S.nd)) (fun _ _ _ _ _ => mts_nil) (fun _ _ _ _ _ => (m_tup (ma_cons (gv 9) ma_nil)))))) (mns_cons (ML.mn (ml_lst ma_nil)) mns_nil)) rfl S.nd (i := 2) (j := 3) rfl rfl (by first | exact .inl rfl | exact .inr rfl) (by first | exact .inl rfl | exact .inr rfl) (by first | exact .inr rfl | exact .inl rfl) (by first | exact .inr rfl | exact .inl rfl) (by rfl)) (mss_cons (ms_for ps rfl (mi_range1 rfl A.range (ma_cons (g_call c__law_draw hr hgd tk (ma_cons (gv 0) (ma_cons m_int ma_nil)) (alen_cons (alen_cons alen_nil))) ma_nil)) (g_nm 4 S.nd) (mss_cons (g_set 5 S.nd (g_min A.min (mab_cons (ME.mb (m_lenG (gv 2) A.len)) (mab_cons (ME.mb (m_op p_add (ME.mb m_int) (ME.mb (g_call c__law_draw hr hgd tk (ma_cons (gv 0) (ma_cons m_int ma_nil)) (alen_cons (alen_cons alen_nil)))))) mab_nil)))) (mss_cons (ms_if (gt_cmp o_gt (ME.mb (gv 5)) (ME.mb m_int)) (mss_cons (ms_setLc (own := [("_law_part", 10)]) bok_name rfl S.nd (i := 6) rfl rfl (by rfl) (MI.toC (mi_range1 rfl A.range (ma_cons (gv 5) ma_nil))) (blkOk_by (by rfl)) (fun _ _ _ _ _ => (g_nm 10 S.nd)) (fun _ _ _ _ _ => mts_nil) (fun _ _ _ _ _ => (m_popG (gv 2) (g_call c__law_draw hr hgd takes_F (ma_cons (gv 0) (ma_cons (m_lenG (gv 2) A.len) ma_nil)) (alen_cons (alen_cons alen_nil)))))) (mss_cons (g_set 7 S.nd (m_tup ma_nil)) (mss_cons (ms_for ps rfl (mi_seq (gv 6)) (g_nm 8 S.nd) (mss_cons (g_set 7 S.nd (m_op p_add (ME.mb (gv 7)) (ME.mb (gv 8)))) mss_nil)) (mss_cons (g_set 7 S.nd (g_tuple A.tuple (mab_cons (ME.mb (ML.me (g_sorted A.sorted (mab_cons (ME.mb (gv 7)) mab_nil)))) mab_nil))) (mss_cons (ms_expr (m_appG (gv 2) (gv 7))) (mss_cons (ms_if (gt_in (o_notInD hr) (ME.mb (gv 7)) (ME.mb (ML.me (ml_lc (own := [("_law_group", 11)]) bok_name rfl S.nd (mic_seq (go 3)) (blkOk_by (by rfl)) (fun _ _ _ _ _ => (g_nm 11 S.nd)) (fun _ _ _ _ _ => mts_nil) (fun _ _ _ _ _ => (g_ix (ME.mb (gv 11)) m_int)))))) (mss_cons (g_app 3 (m_tup (ma_cons (g_call c__law_draw hr hgd tk (ma_cons (gv 0) (ma_cons (m_op p_add (ME.mb (g_len A.len (mab_cons (ME.mb (gv 7)) mab_nil))) (ME.mb m_int)) ma_nil)) (alen_cons (alen_cons alen_nil))) (ma_cons (gv 7) ma_nil)))) mss_nil) mss_nil) mss_nil)))))) mss_nil) mss_nil))) (mss_frz (i := 3) (mss_cons (ms_ret (g_tuple A.tuple (mab_cons (ME.mb (g_call c__law_mixed hr hgd tk (ma_cons (gv 0) (ma_cons (gv 3) ma_nil)) (alen_cons (alen_cons alen_nil)))) mab_nil))) mss_nil))))
theorem sc__law_receipt : FnScope ["_law_pen_here", "_law_lines", "_law_deals", "_law_most", "_law_prices", "_law_line", "_law_some", "_law_deal_here"] ["_law_pen_here", "_law_lines", "_law_deals"] (defScope (top 62)) := ⟨rfl, rfl, rfl, by decide +kernel, rfl, by decide +kernel, by decide +kernel⟩
theorem ok__law_receipt (A : Fc K mg) (F : FnQ K "_law_receipt" "_law_receipt" (top 62) [] a fd) (c__law_deal : Cal Zg P w K mg base 2 "_law_deal" ["_law_pen_here", "_law_prices", "_law_most"] F__law_deal) (c__law_draw : Cal Zg P w K mg base 1 "_law_draw" ["_law_pen_here", "_law_count"] F__law_draw) (c__law_groups : Cal Zg P w K mg base 3 "_law_groups" ["_law_pen_here", "_law_many"] F__law_groups) (c__law_pick : Cal Zg P w K mg base 2 "_law_pick" ["_law_pen_here", "_law_some"] F__law_pick) : FnG Zg P w K mg base 4 a fd ["_law_pen_here", "_law_lines", "_law_deals"] (spF K 3 F__law_receipt) :=
  have S := sc__law_receipt
  fnG_of F S (by decide) fun cdv A' outer s H E hr hgd =>
    have tk : Takes (cxOf (L2.CX P w) P w K mg base ["_law_pen_here", "_law_lines", "_law_deals", "_law_most", "_law_prices", "_law_line", "_law_some", "_law_deal_here"] "_law_receipt" (defScope (top 62)) a cdv A' outer s H E) (WE E) := takes_of rfl rfl rfl rfl
    have ps : PassesOwn (model P w) (cxOf (L2.CX P w) P w K mg base ["_law_pen_here", "_law_lines", "_law_deals", "_law_most", "_law_prices", "_law_line", "_law_some", "_law_deal_here"] "_law_receipt" (defScope (top 62)) a cdv A' outer s H E).A (cxOf (L2.CX P w) P w K mg base ["_law_pen_here", "_law_lines", "_law_deals", "_law_most", "_law_prices", "_law_line", "_law_some", "_law_deal_here"] "_law_receipt" (defScope (top 62)) a cdv A' outer s H E).env (cxOf (L2.CX P w) P w K mg base ["_law_pen_here", "_law_lines", "_law_deals", "_law_most", "_law_prices", "_law_line", "_law_some", "_law_deal_here"] "_law_receipt" (defScope (top 62)) a cdv A' outer s H E).xe := passes_of rfl
    (mss_cons (g_set 3 S.nd (g_call c__law_pick hr hgd tk (ma_cons (gv 0) (ma_cons (ML.me (ml_lst (ma_cons m_int (ma_cons m_int (ma_cons m_int (ma_cons m_int (ma_cons m_int ma_nil))))))) ma_nil)) (alen_cons (alen_cons alen_nil)))) (mss_cons (g_set 4 S.nd (m_tup ma_nil)) (mss_cons (ms_for ps rfl (mi_range1 rfl A.range (ma_cons (m_op p_add (ME.mb m_int) (ME.mb (g_call c__law_draw hr hgd tk (ma_cons (gv 0) (ma_cons (gv 1) ma_nil)) (alen_cons (alen_cons alen_nil))))) ma_nil)) (g_nm 5 S.nd) (mss_cons (g_set 4 S.nd (m_op p_add (ME.mb (gv 4)) (ME.mb (m_tup (ma_cons (m_op p_add (ME.mb m_int) (ME.mb (g_call c__law_draw hr hgd tk (ma_cons (gv 0) (ma_cons (g_call c__law_pick hr hgd tk (ma_cons (gv 0) (ma_cons (ML.me (ml_lst (ma_cons m_int (ma_cons m_int (ma_cons m_int ma_nil))))) ma_nil)) (alen_cons (alen_cons alen_nil))) ma_nil)) (alen_cons (alen_cons alen_nil))))) ma_nil))))) mss_nil)) (mss_cons (g_set 6 S.nd (g_tuple A.tuple (mab_cons (ME.mb (ML.me (ml_lc (own := [("_law_deal_here", 7)]) bok_name rfl S.nd (MI.toC (mi_range1 rfl A.range (ma_cons (g_call c__law_draw hr hgd tk (ma_cons (gv 0) (ma_cons (m_op p_add (ME.mb (gv 2)) (ME.mb m_int)) ma_nil)) (alen_cons (alen_cons alen_nil))) ma_nil))) (blkOk_by (by rfl)) (fun _ _ _ _ _ => (g_nm 7 S.nd)) (fun _ _ _ _ _ => mts_nil) (fun _ _ _ _ _ => (g_call c__law_deal hr hgd takes_F (ma_cons (gv 0) (ma_cons (gv 4) (ma_cons (gv 3) ma_nil))) (alen_cons (alen_cons (alen_cons alen_nil)))))))) mab_nil))) (mss_cons (ms_ret (m_tup (ma_cons (gv 4) (ma_cons (gv 6) (ma_cons (g_call c__law_groups hr hgd tk (ma_cons (gv 0) (ma_cons (g_len A.len (mab_cons (ME.mb (gv 6)) mab_nil)) ma_nil)) (alen_cons (alen_cons alen_nil))) ma_nil))))) mss_nil)))))
theorem sc__law_text : FnScope ["_law_prices", "_law_deals", "_law_groups_here", "_law_lines", "_law_deal_here", "_law_limit", "_law_some", "_law_price", "_law_line", "_law_saving", "_law_number"] ["_law_prices", "_law_deals", "_law_groups_here"] (defScope (top 63)) := ⟨rfl, rfl, rfl, by decide +kernel, rfl, by decide +kernel, by decide +kernel⟩
theorem ok__law_text (A : Fc K mg) (F : FnQ K "_law_text" "_law_text" (top 63) [] a fd)  : FnG Zg P w K mg base 1 a fd ["_law_prices", "_law_deals", "_law_groups_here"] (spF K 3 F__law_text) :=
  have S := sc__law_text
  fnG_of F S (by decide) fun cdv A' outer s H E hr hgd =>
    have tk : Takes (cxOf (L2.CX P w) P w K mg base ["_law_prices", "_law_deals", "_law_groups_here", "_law_lines", "_law_deal_here", "_law_limit", "_law_some", "_law_price", "_law_line", "_law_saving", "_law_number"] "_law_text" (defScope (top 63)) a cdv A' outer s H E) (WE E) := takes_of rfl rfl rfl rfl
    have ps : PassesOwn (model P w) (cxOf (L2.CX P w) P w K mg base ["_law_prices", "_law_deals", "_law_groups_here", "_law_lines", "_law_deal_here", "_law_limit", "_law_some", "_law_price", "_law_line", "_law_saving", "_law_number"] "_law_text" (defScope (top 63)) a cdv A' outer s H E).A (cxOf (L2.CX P w) P w K mg base ["_law_prices", "_law_deals", "_law_groups_here", "_law_lines", "_law_deal_here", "_law_limit", "_law_some", "_law_price", "_law_line", "_law_saving", "_law_number"] "_law_text" (defScope (top 63)) a cdv A' outer s H E).env (cxOf (L2.CX P w) P w K mg base ["_law_prices", "_law_deals", "_law_groups_here", "_law_lines", "_law_deal_here", "_law_limit", "_law_some", "_law_price", "_law_line", "_law_saving", "_law_number"] "_law_text" (defScope (top 63)) a cdv A' outer s H E).xe := passes_of rfl
    (mss_cons (g_setO 3 S.nd (ml_lst (ma_cons (m_op p_add (ME.mb m_str) (ME.mb (m_join m_str (ME.mb (ML.me (ml_lc (own := [("_law_price", 7)]) bok_name rfl S.nd (mic_seq (ME.mb (gv 0))) (blkOk_by (by rfl)) (fun _ _ _ _ _ => (g_nm 7 S.nd)) (fun _ _ _ _ _ => mts_nil) (fun _ _ _ _ _ => (g_str A.str (mab_cons (ME.mb (gv 7)) mab_nil))))))))) ma_nil))) (mss_cons (ms_for ps rfl (mi_seq (gv 1)) (g_nm 4 S.nd) (mss_cons (g_app 3 (m_op p_add (ME.mb m_str) (ME.mb (m_join m_str (ME.mb (ML.me (ml_lc (own := [("_law_line", 8), ("_law_saving", 9)]) (bok_tup (bsok_cons bok_name (bsok_cons bok_name bsok_nil))) rfl S.nd (mic_seq (ME.mb (gv 4))) (blkOk_by (by rfl)) (fun _ _ _ _ _ => (mg_tup rfl (mgs_cons (g_nm 8 S.nd) (mgs_cons (g_nm 9 S.nd) mgs_nil)))) (fun _ _ _ _ _ => mts_nil) (fun _ _ _ _ _ => (m_op p_add (ME.mb (m_op p_add (ME.mb (m_op p_add (ME.mb m_str) (ME.mb (g_str A.str (mab_cons (ME.mb (gv 8)) mab_nil))))) (ME.mb m_str))) (ME.mb (g_str A.str (mab_cons (ME.mb (gv 9)) mab_nil)))))))))))) mss_nil)) (mss_cons (ms_for ps rfl (mi_seq (gv 2)) (mg_tup rfl (mgs_cons (g_nm 5 S.nd) (mgs_cons (g_nm 6 S.nd) mgs_nil))) (mss_cons (g_app 3 (m_op p_add (ME.mb (m_op p_add (ME.mb (m_op p_add (ME.mb m_str) (ME.mb (g_str A.str (mab_cons (ME.mb (gv 5)) mab_nil))))) (ME.mb m_str))) (ME.mb (m_join m_str (ME.mb (ML.me (ml_lc (own := [("_law_number", 10)]) bok_name rfl S.nd (mic_seq (ME.mb (gv 6))) (blkOk_by (by rfl)) (fun _ _ _ _ _ => (g_nm 10 S.nd)) (fun _ _ _ _ _ => mts_nil) (fun _ _ _ _ _ => (g_str A.str (mab_cons (ME.mb (gv 10)) mab_nil)))))))))) mss_nil)) (mss_cons (ms_ret (m_op p_add (ME.mb (m_join m_str (go 3))) (ME.mb m_str))) mss_nil))))
theorem sc__law_due : FnScope ["_law_prices", "_law_deals", "_law_groups_here", "_law_sizes", "_law_name"] ["_law_prices", "_law_deals", "_law_groups_here"] (defScope (top 64)) := ⟨rfl, rfl, rfl, by decide +kernel, rfl, by decide +kernel, by decide +kernel⟩
theorem ok__law_due (A : Fc K mg) (F : FnQ K "_law_due" "_law_due" (top 64) [] a fd) (c__law_text : Cal Zg P w K mg base 1 "_law_text" ["_law_prices", "_law_deals", "_law_groups_here"] F__law_text) : FnG Zg P w K mg base 2 a fd ["_law_prices", "_law_deals", "_law_groups_here"] (spF K 3 F__law_due) :=
  have S := sc__law_due
  fnG_of F S (by decide) fun cdv A' outer s H E hr hgd =>
    have tk : Takes (cxOf (L2.CX P w) P w K mg base ["_law_prices", "_law_deals", "_law_groups_here", "_law_sizes", "_law_name"] "_law_due" (defScope (top 64)) a cdv A' outer s H E) (WE E) := takes_of rfl rfl rfl rfl
    have ps : PassesOwn (model P w) (cxOf (L2.CX P w) P w K mg base ["_law_prices", "_law_deals", "_law_groups_here", "_law_sizes", "_law_name"] "_law_due" (defScope (top 64)) a cdv A' outer s H E).A (cxOf (L2.CX P w) P w K mg base ["_law_prices", "_law_deals", "_law_groups_here", "_law_sizes", "_law_name"] "_law_due" (defScope (top 64)) a cdv A' outer s H E).env (cxOf (L2.CX P w) P w K mg base ["_law_prices", "_law_deals", "_law_groups_here", "_law_sizes", "_law_name"] "_law_due" (defScope (top 64)) a cdv A' outer s H E).xe := passes_of rfl
    (mss_cons (g_set 3 S.nd (ML.me (ml_lst (ma_cons (m_op p_add (ME.mb (g_str A.str (mab_cons (ME.mb (g_len A.len (mab_cons (ME.mb (gv 0)) mab_nil))) mab_nil))) (ME.mb m_str)) (ma_cons (m_op p_add (ME.mb (g_str A.str (mab_cons (ME.mb (g_len A.len (mab_cons (ME.mb (gv 1)) mab_nil))) mab_nil))) (ME.mb m_str)) (ma_cons (m_op p_add (ME.mb (g_str A.str (mab_cons (ME.mb (g_len A.len (mab_cons (ME.mb (gv 2)) mab_nil))) mab_nil))) (ME.mb m_str)) ma_nil)))))) (mss_cons (g_set 4 S.nd (m_op p_add (ME.mb (m_op p_add (ME.mb m_str) (ME.mb (m_join m_str (ME.mb (gv 3)))))) (ME.mb m_str))) (mss_cons (ms_ret (m_tup (ma_cons (gv 0) (ma_cons (gv 1) (ma_cons (gv 2) (ma_cons (g_sum A.sum (mab_cons (ME.mb (ML.me (g_list A.list (mab_cons (ME.mb (gv 0)) mab_nil)))) mab_nil)) (ma_cons (g_len A.len (mab_cons (ME.mb (gv 1)) mab_nil)) (ma_cons (gv 4) (ma_cons (g_call c__law_text hr hgd tk (ma_cons (gv 0) (ma_cons (gv 1) (ma_cons (gv 2) ma_nil))) (alen_cons (alen_cons (alen_cons alen_nil)))) ma_nil))))))))) mss_nil)))
theorem sc_number_in : FnScope ["word", "sign"] ["word"] (defScope (top 35)) := ⟨rfl, rfl, rfl, by decide +kernel, rfl, by decide +kernel, by decide +kernel⟩
theorem ok_number_in (A : Fc K mg) (F : FnQ K "number_in" "number_in" (top 35) [] a fd)  : FnG Zg P w K mg base 1 a fd ["word"] (spF K 1 F_number_in) :=
  have S := sc_number_in
  fnG_of F S (by decide) fun cdv A' outer s H E hr hgd =>
    have tk : Takes (cxOf (L2.CX P w) P w K mg base ["word", "sign"] "number_in" (defScope (top 35)) a cdv A' outer s H E) (WE E) := takes_of rfl rfl rfl rfl
    have ps : PassesOwn (model P w) (cxOf (L2.CX P w) P w K mg base ["word", "sign"] "number_in" (defScope (top 35)) a cdv A' outer s H E).A (cxOf (L2.CX P w) P w K mg base ["word", "sign"] "number_in" (defScope (top 35)) a cdv A' outer s H E).env (cxOf (L2.CX P w) P w K mg base ["word", "sign"] "number_in" (defScope (top 35)) a cdv A' outer s H E).xe := passes_of rfl
    (mss_cons (ms_ret (m_if (MW.mt (mw_and (mt_chain o_le o_le (ME.mb m_int) (ME.mb (g_len A.len (mab_cons (ME.mb (gv 0)) mab_nil))) (ME.mb m_int)) (mw_and1 (mt_val (g_all A.all (mab_cons (ME.mb (ML.me (ml_lc (own := [("sign", 1)]) bok_name rfl S.nd (MI.toC (mi_str (gv 0))) (blkOk_by (by rfl)) (fun _ _ _ _ _ => (g_nm 1 S.nd)) (fun _ _ _ _ _ => mts_nil) (fun _ _ _ _ _ => (g_in p_inSign (ME.mb (gv 1)) (ME.mb (gS A.FIGURES))))))) mab_nil)))))) (g_int A.int (mab_cons (ME.mb (gv 0)) mab_nil)) (m_un p_neg m_int))) mss_nil)
theorem sc_numbers_in : FnScope ["part", "word"] ["part"] (defScope (top 36)) := ⟨rfl, rfl, rfl, by decide +kernel, rfl, by decide +kernel, by decide +kernel⟩
theorem ok_numbers_in (A : Fc K mg) (F : FnQ K "numbers_in" "numbers_in" (top 36) [] a fd) (c_number_in : Cal Zg P w K mg base 1 "number_in" ["word"] F_number_in) : FnG Zg P w K mg base 2 a fd ["part"] (spF K 1 F_numbers_in) :=
  have S := sc_numbers_in
  fnG_of F S (by decide) fun cdv A' outer s H E hr hgd =>
    have tk : Takes (cxOf (L2.CX P w) P w K mg base ["part", "word"] "numbers_in" (defScope (top 36)) a cdv A' outer s H E) (WE E) := takes_of rfl rfl rfl rfl
    have ps : PassesOwn (model P w) (cxOf (L2.CX P w) P w K mg base ["part", "word"] "numbers_in" (defScope (top 36)) a cdv A' outer s H E).A (cxOf (L2.CX P w) P w K mg base ["part", "word"] "numbers_in" (defScope (top 36)) a cdv A' outer s H E).env (cxOf (L2.CX P w) P w K mg base ["part", "word"] "numbers_in" (defScope (top 36)) a cdv A' outer s H E).xe := passes_of rfl
    (mss_cons (ms_ret (g_tuple A.tuple (mab_cons (ME.mb (ML.me (ml_lc (own := [("word", 1)]) bok_name rfl S.nd (mic_seq (ME.mb (ML.me (ml_split (gv 0) m_str)))) (blkOk_by (by rfl)) (fun _ _ _ _ _ => (g_nm 1 S.nd)) (fun _ _ _ _ _ => mts_nil) (fun _ _ _ _ _ => (g_call c_number_in hr hgd takes_F (ma_cons (gv 1) ma_nil) (alen_cons alen_nil)))))) mab_nil))) mss_nil)
theorem sc_deal_in : FnScope ["line", "word", "part"] ["line"] (defScope (top 37)) := ⟨rfl, rfl, rfl, by decide +kernel, rfl, by decide +kernel, by decide +kernel⟩
theorem ok_deal_in (A : Fc K mg) (F : FnQ K "deal_in" "deal_in" (top 37) [] a fd) (c_number_in : Cal Zg P w K mg base 1 "number_in" ["word"] F_number_in) : FnG Zg P w K mg base 2 a fd ["line"] (spF K 1 F_deal_in) :=
  have S := sc_deal_in
  fnG_of F S (by decide) fun cdv A' outer s H E hr hgd =>
    have tk : Takes (cxOf (L2.CX P w) P w K mg base ["line", "word", "part"] "deal_in" (defScope (top 37)) a cdv A' outer s H E) (WE E) := takes_of rfl rfl rfl rfl
    have ps : PassesOwn (model P w) (cxOf (L2.CX P w) P w K mg base ["line", "word", "part"] "deal_in" (defScope (top 37)) a cdv A' outer s H E).A (cxOf (L2.CX P w) P w K mg base ["line", "word", "part"] "deal_in" (defScope (top 37)) a cdv A' outer s H E).env (cxOf (L2.CX P w) P w K mg base ["line", "word", "part"] "deal_in" (defScope (top 37)) a cdv A' outer s H E).xe := passes_of rfl
    (mss_cons (ms_ret (g_tuple A.tuple (mab_cons (ME.mb (ML.me (ml_lc (own := [("word", 1)]) bok_name rfl S.nd (mic_seq (ME.mb (m_slice (ME.mb (ML.me (ml_split (gv 0) m_str))) (mo_some m_int) mo_none))) (blkOk_by (by rfl)) (fun _ _ _ _ _ => (g_nm 1 S.nd)) (fun _ _ _ _ _ => mts_nil) (fun _ _ _ _ _ => (g_tuple A.tuple (mab_cons (ME.mb (ML.me (ml_lc (own := [("part", 2)]) bok_name rfl S.nd (mic_seq (ME.mb (ML.me (ml_split (gv 1) (gS A.COLON))))) (blkOk_by (by rfl)) (fun _ _ _ _ _ => (g_nm 2 S.nd)) (fun _ _ _ _ _ => mts_nil) (fun _ _ _ _ _ => (g_call c_number_in hr hgd takes_F (ma_cons (gv 2) ma_nil) (alen_cons alen_nil)))))) mab_nil)))))) mab_nil))) mss_nil)
theorem sc_group_in : FnScope ["line", "limit", "mark", "some"] ["line"] (defScope (top 38)) := ⟨rfl, rfl, rfl, by decide +kernel, rfl, by decide +kernel, by decide +kernel⟩
theorem ok_group_in (A : Fc K mg) (F : FnQ K "group_in" "group_in" (top 38) [] a fd) (c_number_in : Cal Zg P w K mg base 1 "number_in" ["word"] F_number_in) (c_numbers_in : Cal Zg P w K mg base 2 "numbers_in" ["part"] F_numbers_in) : FnG Zg P w K mg base 3 a fd ["line"] (spF K 1 F_group_in) :=
  have S := sc_group_in
  fnG_of F S (by decide) fun cdv A' outer s H E hr hgd =>
    have tk : Takes (cxOf (L2.CX P w) P w K mg base ["line", "limit", "mark", "some"] "group_in" (defScope (top 38)) a cdv A' outer s H E) (WE E) := takes_of rfl rfl rfl rfl
    have ps : PassesOwn (model P w) (cxOf (L2.CX P w) P w K mg base ["line", "limit", "mark", "some"] "group_in" (defScope (top 38)) a cdv A' outer s H E).A (cxOf (L2.CX P w) P w K mg base ["line", "limit", "mark", "some"] "group_in" (defScope (top 38)) a cdv A' outer s H E).env (cxOf (L2.CX P w) P w K mg base ["line", "limit", "mark", "some"] "group_in" (defScope (top 38)) a cdv A' outer s H E).xe := passes_of rfl
    (mss_cons (g_asg (m_part (m_sliceS (gv 0) (mo_some (g_len A.len (mab_cons (ME.mb (gS A.GROUP)) mab_nil))) mo_none) (gS A.OF)) (mg_tup rfl (mgs_cons (g_nm 1 S.nd) (mgs_cons (g_nm 2 S.nd) (mgs_cons (g_nm 3 S.nd) mgs_nil))))) (mss_cons (ms_ret (m_tup (ma_cons (g_call c_number_in hr hgd tk (ma_cons (gv 1) ma_nil) (alen_cons alen_nil)) (ma_cons (g_call c_numbers_in hr hgd tk (ma_cons (gv 3) ma_nil) (alen_cons alen_nil)) ma_nil)))) mss_nil))
theorem sc_numbers_text : FnScope ["numbers", "one"] ["numbers"] (defScope (top 33)) := ⟨rfl, rfl, rfl, by decide +kernel, rfl, by decide +kernel, by decide +kernel⟩
theorem ok_numbers_text (A : Fc K mg) (F : FnQ K "numbers_text" "numbers_text" (top 33) [] a fd)  : FnG Zg P w K mg base 1 a fd ["numbers"] (spF K 1 F_numbers_text) :=
  have S := sc_numbers_text
  fnG_of F S (by decide) fun cdv A' outer s H E hr hgd =>
    have tk : Takes (cxOf (L2.CX P w) P w K mg base ["numbers", "one"] "numbers_text" (defScope (top 33)) a cdv A' outer s H E) (WE E) := takes_of rfl rfl rfl rfl
    have ps : PassesOwn (model P w) (cxOf (L2.CX P w) P w K mg base ["numbers", "one"] "numbers_text" (defScope (top 33)) a cdv A' outer s H E).A (cxOf (L2.CX P w) P w K mg base ["numbers", "one"] "numbers_text" (defScope (top 33)) a cdv A' outer s H E).env (cxOf (L2.CX P w) P w K mg base ["numbers", "one"] "numbers_text" (defScope (top 33)) a cdv A' outer s H E).xe := passes_of rfl
    (mss_cons (ms_ret (m_join m_str (ME.mb (ML.me (ml_lc (own := [("one", 1)]) bok_name rfl S.nd (mic_seq (ME.mb (gv 0))) (blkOk_by (by rfl)) (fun _ _ _ _ _ => (g_nm 1 S.nd)) (fun _ _ _ _ _ => mts_nil) (fun _ _ _ _ _ => (g_str A.str (mab_cons (ME.mb (gv 1)) mab_nil)))))))) mss_nil)
theorem sc_receipt_lines : FnScope ["prices", "deals", "groups", "found", "deal", "line", "saving", "limit", "some"] ["prices", "deals", "groups"] (defScope (top 34)) := ⟨rfl, rfl, rfl, by decide +kernel, rfl, by decide +kernel, by decide +kernel⟩
theorem ok_receipt_lines (A : Fc K mg) (F : FnQ K "receipt_lines" "receipt_lines" (top 34) [] a fd) (c_numbers_text : Cal Zg P w K mg base 1 "numbers_text" ["numbers"] F_numbers_text) : FnG Zg P w K mg base 2 a fd ["prices", "deals", "groups"] (spF K 3 F_receipt_lines) :=
  have S := sc_receipt_lines
  fnG_of F S (by decide) fun cdv A' outer s H E hr hgd =>
    have tk : Takes (cxOf (L2.CX P w) P w K mg base ["prices", "deals", "groups", "found", "deal", "line", "saving", "limit", "some"] "receipt_lines" (defScope (top 34)) a cdv A' outer s H E) (WE E) := takes_of rfl rfl rfl rfl
    have ps : PassesOwn (model P w) (cxOf (L2.CX P w) P w K mg base ["prices", "deals", "groups", "found", "deal", "line", "saving", "limit", "some"] "receipt_lines" (defScope (top 34)) a cdv A' outer s H E).A (cxOf (L2.CX P w) P w K mg base ["prices", "deals", "groups", "found", "deal", "line", "saving", "limit", "some"] "receipt_lines" (defScope (top 34)) a cdv A' outer s H E).env (cxOf (L2.CX P w) P w K mg base ["prices", "deals", "groups", "found", "deal", "line", "saving", "limit", "some"] "receipt_lines" (defScope (top 34)) a cdv A' outer s H E).xe := passes_of rfl
    (mss_cons (g_setO 3 S.nd (ml_lst (ma_cons (m_op p_add (ME.mb (gS A.PRICES)) (ME.mb (g_call c_numbers_text hr hgd tk (ma_cons (gv 0) ma_nil) (alen_cons alen_nil)))) ma_nil))) (mss_cons (ms_for ps rfl (mi_seq (gv 1)) (g_nm 4 S.nd) (mss_cons (g_app 3 (m_op p_add (ME.mb (gS A.DEAL)) (ME.mb (m_join m_str (ME.mb (ML.me (ml_lc (own := [("line", 5), ("saving", 6)]) (bok_tup (bsok_cons bok_name (bsok_cons bok_name bsok_nil))) rfl S.nd (mic_seq (ME.mb (gv 4))) (blkOk_by (by rfl)) (fun _ _ _ _ _ => (mg_tup rfl (mgs_cons (g_nm 5 S.nd) (mgs_cons (g_nm 6 S.nd) mgs_nil)))) (fun _ _ _ _ _ => mts_nil) (fun _ _ _ _ _ => (m_jstr (mj_cons m_str (mj_cons (m_fmt (gv 5)) (mj_cons m_str (mj_cons (m_fmt (gv 6)) mj_nil))))))))))))) mss_nil)) (mss_cons (ms_ret (m_op p_add (go 3) (ME.mb (ML.me (ml_lc (own := [("limit", 7), ("some", 8)]) (bok_tup (bsok_cons bok_name (bsok_cons bok_name bsok_nil))) rfl S.nd (mic_seq (ME.mb (gv 2))) (blkOk_by (by rfl)) (fun _ _ _ _ _ => (mg_tup rfl (mgs_cons (g_nm 7 S.nd) (mgs_cons (g_nm 8 S.nd) mgs_nil)))) (fun _ _ _ _ _ => mts_nil) (fun _ _ _ _ _ => (m_op p_add (ME.mb (m_op p_add (ME.mb (m_op p_add (ME.mb (gS A.GROUP)) (ME.mb (g_str A.str (mab_cons (ME.mb (gv 7)) mab_nil))))) (ME.mb (gS A.OF)))) (ME.mb (g_call c_numbers_text hr hgd takes_F (ma_cons (gv 8) ma_nil) (alen_cons alen_nil)))))))))) mss_nil)))
theorem sc_parts_in : FnScope ["text", "lines", "prices", "deals", "groups", "line", "deal", "offer"] ["text"] (defScope (top 39)) := ⟨rfl, rfl, rfl, by decide +kernel, rfl, by decide +kernel, by decide +kernel⟩
theorem ok_parts_in (A : Fc K mg) (F : FnQ K "parts_in" "parts_in" (top 39) [] a fd) (c_deal_in : Cal Zg P w K mg base 2 "deal_in" ["line"] F_deal_in) (c_group_in : Cal Zg P w K mg base 3 "group_in" ["line"] F_group_in) (c_numbers_in : Cal Zg P w K mg base 2 "numbers_in" ["part"] F_numbers_in) (c_receipt_lines : Cal Zg P w K mg base 2 "receipt_lines" ["prices", "deals", "groups"] F_receipt_lines) : FnG Zg P w K mg base 4 a fd ["text"] (spF K 1 F_parts_in) :=
  have S := sc_parts_in
  fnG_of F S (by decide) fun cdv A' outer s H E hr hgd =>
    have tk : Takes (cxOf (L2.CX P w) P w K mg base ["text", "lines", "prices", "deals", "groups", "line", "deal", "offer"] "parts_in" (defScope (top 39)) a cdv A' outer s H E) (WE E) := takes_of rfl rfl rfl rfl
    have ps : PassesOwn (model P w) (cxOf (L2.CX P w) P w K mg base ["text", "lines", "prices", "deals", "groups", "line", "deal", "offer"] "parts_in" (defScope (top 39)) a cdv A' outer s H E).A (cxOf (L2.CX P w) P w K mg base ["text", "lines", "prices", "deals", "groups", "line", "deal", "offer"] "parts_in" (defScope (top 39)) a cdv A' outer s H E).env (cxOf (L2.CX P w) P w K mg base ["text", "lines", "prices", "deals", "groups", "line", "deal", "offer"] "parts_in" (defScope (top 39)) a cdv A' outer s H E).xe := passes_of rfl
    (mss_cons (ms_if (MW.mt (mw_or (mt_not (mt_val (g_isi .str A.isinstance A.str (ME.mb (gv 0))))) (mw_or1 (mt_not (mt_val (m_ends (gv 0) m_str)))))) (mss_cons ms_never mss_nil) mss_nil) (mss_cons (g_set 1 S.nd (ML.me (ml_split (m_sliceS (gv 0) mo_none (mo_some (m_un p_neg m_int))) m_str))) (mss_cons (g_set 2 S.nd (g_call c_numbers_in hr hgd tk (ma_cons (m_sliceS (g_ix (ME.mb (gv 1)) m_int) (mo_some (g_len A.len (mab_cons (ME.mb (gS A.PRICES)) mab_nil))) mo_none) ma_nil) (alen_cons alen_nil))) (mss_cons (g_set 3 S.nd (g_tuple A.tuple (mab_cons (ME.mb (ML.me (ml_lc (own := [("line", 5)]) bok_name rfl S.nd (mic_seq (ME.mb (m_slice (ME.mb (gv 1)) (mo_some m_int) mo_none))) (blkOk_by (by rfl)) (fun _ _ _ _ _ => (g_nm 5 S.nd)) (fun _ _ _ _ _ => (mts_one (mt_not (mt_val (m_starts (gv 5) (gS A.GROUP)))))) (fun _ _ _ _ _ => (g_call c_deal_in hr hgd takes_F (ma_cons (gv 5) ma_nil) (alen_cons alen_nil)))))) mab_nil))) (mss_cons (g_set 4 S.nd (g_tuple A.tuple (mab_cons (ME.mb (ML.me (ml_lc (own := [("line", 5)]) bok_name rfl S.nd (mic_seq (ME.mb (m_slice (ME.mb (gv 1)) (mo_some m_int) mo_none))) (blkOk_by (by rfl)) (fun _ _ _ _ _ => (g_nm 5 S.nd)) (fun _ _ _ _ _ => (mts_one (mt_val (m_starts (gv 5) (gS A.GROUP))))) (fun _ _ _ _ _ => (g_call c_group_in hr hgd takes_F (ma_cons (gv 5) ma_nil) (alen_cons alen_nil)))))) mab_nil))) (mss_cons (ms_if (MW.mt (mw_or (mt_not (mt_val (g_all A.all (mab_cons (ME.mb (ML.me (ml_lc2 (own := [("deal", 6), ("offer", 7)]) (BOk.more bok_name (by decide)) bok_name (by decide) rfl S.nd (mic_seq (ME.mb (gv 3))) (blkOk_by (by rfl)) (fun _ _ _ _ _ => (MG.more (g_nm 6 S.nd) (by decide))) (fun _ _ _ _ _ => mts_nil) (fun _ _ _ _ _ => (mi_seq (gv 6))) (fun _ _ _ _ _ => (g_nm 7 S.nd)) (fun _ _ _ _ _ => mts_nil) (fun _ _ _ _ _ => (g_cmp (o_eq hr) (ME.mb (g_len A.len (mab_cons (ME.mb (gv 7)) mab_nil))) (ME.mb m_int)))))) mab_nil)))) (mw_or1 (gt_cmp (o_ne hr) (ME.mb (g_call c_receipt_lines hr hgd tk (ma_cons (gv 2) (ma_cons (gv 3) (ma_cons (gv 4) ma_nil))) (alen_cons (alen_cons (alen_cons alen_nil))))) (ME.mb (gv 1)))))) (mss_cons ms_never mss_nil) mss_nil) (mss_cons (ms_ret (m_tup (ma_cons (gv 2) (ma_cons (gv 3) (ma_cons (gv 4) ma_nil))))) mss_nil)))))))
theorem sc_is_integer : FnScope ["thing"] ["thing"] (defScope (top 19)) := ⟨rfl, rfl, rfl, by decide +kernel, rfl, by decide +kernel, by decide +kernel⟩
theorem ok_is_integer (A : Fc K mg) (F : FnQ K "is_integer" "is_integer" (top 19) [] a fd)  : FnG Zg P w K mg base 1 a fd ["thing"] (spF K 1 F_is_integer) :=
  have S := sc_is_integer
  fnG_of F S (by decide) fun cdv A' outer s H E hr hgd =>
    have tk : Takes (cxOf (L2.CX P w) P w K mg base ["thing"] "is_integer" (defScope (top 19)) a cdv A' outer s H E) (WE E) := takes_of rfl rfl rfl rfl
    have ps : PassesOwn (model P w) (cxOf (L2.CX P w) P w K mg base ["thing"] "is_integer" (defScope (top 19)) a cdv A' outer s H E).A (cxOf (L2.CX P w) P w K mg base ["thing"] "is_integer" (defScope (top 19)) a cdv A' outer s H E).env (cxOf (L2.CX P w) P w K mg base ["thing"] "is_integer" (defScope (top 19)) a cdv A' outer s H E).xe := passes_of rfl
    (mss_cons (ms_ret (m_and (g_isi .int A.isinstance A.int (ME.mb (gv 0))) (m_one (m_not (g_isi .bool A.isinstance A.bool (ME.mb (gv 0))))))) mss_nil)
theorem sc_is_between : FnScope ["thing", "low", "high"] ["thing", "low", "high"] (defScope (top 20)) := ⟨rfl, rfl, rfl, by decide +kernel, rfl, by decide +kernel, by decide +kernel⟩
theorem ok_is_between (A : Fc K mg) (F : FnQ K "is_between" "is_between" (top 20) [] a fd) (c_is_integer : Cal Zg P w K mg base 1 "is_integer" ["thing"] F_is_integer) : FnG Zg P w K mg base 2 a fd ["thing", "low", "high"] (spF K 3 F_is_between) :=
  have S := sc_is_between
  fnG_of F S (by decide) fun cdv A' outer s H E hr hgd =>
    have tk : Takes (cxOf (L2.CX P w) P w K mg base ["thing", "low", "high"] "is_between" (defScope (top 20)) a cdv A' outer s H E) (WE E) := takes_of rfl rfl rfl rfl
    have ps : PassesOwn (model P w) (cxOf (L2.CX P w) P w K mg base ["thing", "low", "high"] "is_between" (defScope (top 20)) a cdv A' outer s H E).A (cxOf (L2.CX P w) P w K mg base ["thing", "low", "high"] "is_between" (defScope (top 20)) a cdv A' outer s H E).env (cxOf (L2.CX P w) P w K mg base ["thing", "low", "high"] "is_between" (defScope (top 20)) a cdv A' outer s H E).xe := passes_of rfl
    (mss_cons (ms_ret (m_and (g_call c_is_integer hr hgd tk (ma_cons (gv 0) ma_nil) (alen_cons alen_nil)) (m_one (m_chain o_le o_le (ME.mb (gv 1)) (ME.mb (gv 0)) (ME.mb (gv 2)))))) mss_nil)
theorem sc_are_prices : FnScope ["thing", "price"] ["thing"] (defScope (top 41)) := ⟨rfl, rfl, rfl, by decide +kernel, rfl, by decide +kernel, by decide +kernel⟩
theorem ok_are_prices (A : Fc K mg) (F : FnQ K "are_prices" "are_prices" (top 41) [] a fd) (c_is_between : Cal Zg P w K mg base 2 "is_between" ["thing", "low", "high"] F_is_between) : FnG Zg P w K mg base 3 a fd ["thing"] (spF K 1 F_are_prices) :=
  have S := sc_are_prices
  fnG_of F S (by decide) fun cdv A' outer s H E hr hgd =>
    have tk : Takes (cxOf (L2.CX P w) P w K mg base ["thing", "price"] "are_prices" (defScope (top 41)) a cdv A' outer s H E) (WE E) := takes_of rfl rfl rfl rfl
    have ps : PassesOwn (model P w) (cxOf (L2.CX P w) P w K mg base ["thing", "price"] "are_prices" (defScope (top 41)) a cdv A' outer s H E).A (cxOf (L2.CX P w) P w K mg base ["thing", "price"] "are_prices" (defScope (top 41)) a cdv A' outer s H E).env (cxOf (L2.CX P w) P w K mg base ["thing", "price"] "are_prices" (defScope (top 41)) a cdv A' outer s H E).xe := passes_of rfl
    (mss_cons (ms_if (MW.mt (mw_or (mt_not (mt_val (g_isi .tuple A.isinstance A.tuple (ME.mb (gv 0))))) (mw_or1 (mt_not (mt_chain o_le o_le (ME.mb m_int) (ME.mb (g_len A.len (mab_cons (ME.mb (gv 0)) mab_nil))) (ME.mb (gI A.MOST_LINES))))))) (mss_cons (ms_ret m_bl) mss_nil) mss_nil) (mss_cons (ms_ret (g_all A.all (mab_cons (ME.mb (ML.me (ml_lc (own := [("price", 1)]) bok_name rfl S.nd (mic_seq (ME.mb (gv 0))) (blkOk_by (by rfl)) (fun _ _ _ _ _ => (g_nm 1 S.nd)) (fun _ _ _ _ _ => mts_nil) (fun _ _ _ _ _ => (g_call c_is_between hr hgd takes_F (ma_cons (gv 1) (ma_cons m_int (ma_cons (gI A.MOST_PRICE) ma_nil))) (alen_cons (alen_cons (alen_cons alen_nil)))))))) mab_nil))) mss_nil))
theorem sc_is_pair : FnScope ["thing", "one"] ["thing"] (defScope (top 23)) := ⟨rfl, rfl, rfl, by decide +kernel, rfl, by decide +kernel, by decide +kernel⟩
theorem ok_is_pair (A : Fc K mg) (F : FnQ K "is_pair" "is_pair" (top 23) [] a fd) (c_is_integer : Cal Zg P w K mg base 1 "is_integer" ["thing"] F_is_integer) : FnG Zg P w K mg base 2 a fd ["thing"] (spF K 1 F_is_pair) :=
  have S := sc_is_pair
  fnG_of F S (by decide) fun cdv A' outer s H E hr hgd =>
    have tk : Takes (cxOf (L2.CX P w) P w K mg base ["thing", "one"] "is_pair" (defScope (top 23)) a cdv A' outer s H E) (WE E) := takes_of rfl rfl rfl rfl
    have ps : PassesOwn (model P w) (cxOf (L2.CX P w) P w K mg base ["thing", "one"] "is_pair" (defScope (top 23)) a cdv A' outer s H E).A (cxOf (L2.CX P w) P w K mg base ["thing", "one"] "is_pair" (defScope (top 23)) a cdv A' outer s H E).env (cxOf (L2.CX P w) P w K mg base ["thing", "one"] "is_pair" (defScope (top 23)) a cdv A' outer s H E).xe := passes_of rfl
    (mss_cons (ms_ret (m_and (g_isi .tuple A.isinstance A.tuple (ME.mb (gv 0))) (m_and (g_cmp (o_eq hr) (ME.mb (g_len A.len (mab_cons (ME.mb (gv 0)) mab_nil))) (ME.mb m_int)) (m_one (g_all A.all (mab_cons (ME.mb (ML.me (ml_lc (own := [("one", 1)]) bok_name rfl S.nd (mic_seq (ME.mb (gv 0))) (blkOk_by (by rfl)) (fun _ _ _ _ _ => (g_nm 1 S.nd)) (fun _ _ _ _ _ => mts_nil) (fun _ _ _ _ _ => (g_call c_is_integer hr hgd takes_F (ma_cons (gv 1) ma_nil) (alen_cons alen_nil)))))) mab_nil)))))) mss_nil)
theorem sc_is_offer : FnScope ["prices", "thing"] ["prices", "thing"] (defScope (top 42)) := ⟨rfl, rfl, rfl, by decide +kernel, rfl, by decide +kernel, by decide +kernel⟩
theorem ok_is_offer (A : Fc K mg) (F : FnQ K "is_offer" "is_offer" (top 42) [] a fd) (c_is_pair : Cal Zg P w K mg base 2 "is_pair" ["thing"] F_is_pair) : FnG Zg P w K mg base 3 a fd ["prices", "thing"] (spF K 2 F_is_offer) :=
  have S := sc_is_offer
  fnG_of F S (by decide) fun cdv A' outer s H E hr hgd =>
    have tk : Takes (cxOf (L2.CX P w) P w K mg base ["prices", "thing"] "is_offer" (defScope (top 42)) a cdv A' outer s H E) (WE E) := takes_of rfl rfl rfl rfl
    have ps : PassesOwn (model P w) (cxOf (L2.CX P w) P w K mg base ["prices", "thing"] "is_offer" (defScope (top 42)) a cdv A' outer s H E).A (cxOf (L2.CX P w) P w K mg base ["prices", "thing"] "is_offer" (defScope (top 42)) a cdv A' outer s H E).env (cxOf (L2.CX P w) P w K mg base ["prices", "thing"] "is_offer" (defScope (top 42)) a cdv A' outer s H E).xe := passes_of rfl
    (mss_cons (ms_ret (m_and (g_call c_is_pair hr hgd tk (ma_cons (gv 1) ma_nil) (alen_cons alen_nil)) (m_and (m_chain o_le (o_lt hr) (ME.mb m_int) (ME.mb (g_ix (ME.mb (gv 1)) m_int)) (ME.mb (g_len A.len (mab_cons (ME.mb (gv 0)) mab_nil)))) (m_one (m_chain o_le o_le (ME.mb m_int) (ME.mb (g_ix (ME.mb (gv 1)) m_int)) (ME.mb (g_ix (ME.mb (gv 0)) (g_ix (ME.mb (gv 1)) m_int)))))))) mss_nil)
theorem sc_rises : FnScope ["row", "one", "other"] ["row"] (defScope (top 21)) := ⟨rfl, rfl, rfl, by decide +kernel, rfl, by decide +kernel, by decide +kernel⟩
theorem ok_rises (A : Fc K mg) (F : FnQ K "rises" "rises" (top 21) [] a fd)  : FnG Zg P w K mg base 1 a fd ["row"] (spF K 1 F_rises) :=
  have S := sc_rises
  fnG_of F S (by decide) fun cdv A' outer s H E hr hgd =>
    have tk : Takes (cxOf (L2.CX P w) P w K mg base ["row", "one", "other"] "rises" (defScope (top 21)) a cdv A' outer s H E) (WE E) := takes_of rfl rfl rfl rfl
    have ps : PassesOwn (model P w) (cxOf (L2.CX P w) P w K mg base ["row", "one", "other"] "rises" (defScope (top 21)) a cdv A' outer s H E).A (cxOf (L2.CX P w) P w K mg base ["row", "one", "other"] "rises" (defScope (top 21)) a cdv A' outer s H E).env (cxOf (L2.CX P w) P w K mg base ["row", "one", "other"] "rises" (defScope (top 21)) a cdv A' outer s H E).xe := passes_of rfl
    (mss_cons (ms_ret (g_all A.all (mab_cons (ME.mb (ML.me (ml_lc (own := [("one", 1), ("other", 2)]) (bok_tup (bsok_cons bok_name (bsok_cons bok_name bsok_nil))) rfl S.nd (MI.toC (mi_zip rfl A.zip (ma_cons (gv 0) (ma_cons (m_slice (ME.mb (gv 0)) (mo_some m_int) mo_none) ma_nil)))) (blkOk_by (by rfl)) (fun _ _ _ _ _ => (mg_tup rfl (mgs_cons (g_nm 1 S.nd) (mgs_cons (g_nm 2 S.nd) mgs_nil)))) (fun _ _ _ _ _ => mts_nil) (fun _ _ _ _ _ => (g_cmp (o_lt hr) (ME.mb (gv 1)) (ME.mb (gv 2))))))) mab_nil))) mss_nil)
theorem sc_is_deal : FnScope ["prices", "thing", "offer"] ["prices", "thing"] (defScope (top 43)) := ⟨rfl, rfl, rfl, by decide +kernel, rfl, by decide +kernel, by decide +kernel⟩
theorem ok_is_deal (A : Fc K mg) (F : FnQ K "is_deal" "is_deal" (top 43) [] a fd) (c_is_offer : Cal Zg P w K mg base 3 "is_offer" ["prices", "thing"] F_is_offer) (c_rises : Cal Zg P w K mg base 1 "rises" ["row"] F_rises) : FnG Zg P w K mg base 4 a fd ["prices", "thing"] (spF K 2 F_is_deal) :=
  have S := sc_is_deal
  fnG_of F S (by decide) fun cdv A' outer s H E hr hgd =>
    have tk : Takes (cxOf (L2.CX P w) P w K mg base ["prices", "thing", "offer"] "is_deal" (defScope (top 43)) a cdv A' outer s H E) (WE E) := takes_of rfl rfl rfl rfl
    have ps : PassesOwn (model P w) (cxOf (L2.CX P w) P w K mg base ["prices", "thing", "offer"] "is_deal" (defScope (top 43)) a cdv A' outer s H E).A (cxOf (L2.CX P w) P w K mg base ["prices", "thing", "offer"] "is_deal" (defScope (top 43)) a cdv A' outer s H E).env (cxOf (L2.CX P w) P w K mg base ["prices", "thing", "offer"] "is_deal" (defScope (top 43)) a cdv A' outer s H E).xe := passes_of rfl
    (mss_cons (ms_if (MW.mt (mw_or (mt_not (mt_val (g_isi .tuple A.isinstance A.tuple (ME.mb (gv 1))))) (mw_or1 (mt_not (mt_val (g_all A.all (mab_cons (ME.mb (ML.me (ml_lc (own := [("offer", 2)]) bok_name rfl S.nd (mic_seq (ME.mb (gv 1))) (blkOk_by (by rfl)) (fun _ _ _ _ _ => (g_nm 2 S.nd)) (fun _ _ _ _ _ => mts_nil) (fun _ _ _ _ _ => (g_call c_is_offer hr hgd takes_F (ma_cons (gv 0) (ma_cons (gv 2) ma_nil)) (alen_cons (alen_cons alen_nil))))))) mab_nil))))))) (mss_cons (ms_ret m_bl) mss_nil) mss_nil) (mss_cons (ms_ret (g_call c_rises hr hgd tk (ma_cons (ML.me (ml_lc (own := [("offer", 2)]) bok_name rfl S.nd (mic_seq (ME.mb (gv 1))) (blkOk_by (by rfl)) (fun _ _ _ _ _ => (g_nm 2 S.nd)) (fun _ _ _ _ _ => mts_nil) (fun _ _ _ _ _ => (g_ix (ME.mb (gv 2)) m_int)))) ma_nil) (alen_cons alen_nil))) mss_nil))
theorem sc_are_deals : FnScope ["prices", "thing", "deal"] ["prices", "thing"] (defScope (top 44)) := ⟨rfl, rfl, rfl, by decide +kernel, rfl, by decide +kernel, by decide +kernel⟩
theorem ok_are_deals (A : Fc K mg) (F : FnQ K "are_deals" "are_deals" (top 44) [] a fd) (c_is_deal : Cal Zg P w K mg base 4 "is_deal" ["prices", "thing"] F_is_deal) : FnG Zg P w K mg base 5 a fd ["prices", "thing"] (spF K 2 F_are_deals) :=
  have S := sc_are_deals
  fnG_of F S (by decide) fun cdv A' outer s H E hr hgd =>
    have tk : Takes (cxOf (L2.CX P w) P w K mg base ["prices", "thing", "deal"] "are_deals" (defScope (top 44)) a cdv A' outer s H E) (WE E) := takes_of rfl rfl rfl rfl
    have ps : PassesOwn (model P w) (cxOf (L2.CX P w) P w K mg base ["prices", "thing", "deal"] "are_deals" (defScope (top 44)) a cdv A' outer s H E).A (cxOf (L2.CX P w) P w K mg base ["prices", "thing", "deal"] "are_deals" (defScope (top 44)) a cdv A' outer s H E).env (cxOf (L2.CX P w) P w K mg base ["prices", "thing", "deal"] "are_deals" (defScope (top 44)) a cdv A' outer s H E).xe := passes_of rfl
    (mss_cons (ms_ret (m_and (g_isi .tuple A.isinstance A.tuple (ME.mb (gv 1))) (m_and (g_cmp o_le (ME.mb (g_len A.len (mab_cons (ME.mb (gv 1)) mab_nil))) (ME.mb (gI A.MOST_DEALS))) (m_one (g_all A.all (mab_cons (ME.mb (ML.me (ml_lc (own := [("deal", 2)]) bok_name rfl S.nd (mic_seq (ME.mb (gv 1))) (blkOk_by (by rfl)) (fun _ _ _ _ _ => (g_nm 2 S.nd)) (fun _ _ _ _ _ => mts_nil) (fun _ _ _ _ _ => (g_call c_is_deal hr hgd takes_F (ma_cons (gv 0) (ma_cons (gv 2) ma_nil)) (alen_cons (alen_cons alen_nil))))))) mab_nil)))))) mss_nil)
theorem sc_is_set : FnScope ["thing", "many", "one"] ["thing", "many"] (defScope (top 22)) := ⟨rfl, rfl, rfl, by decide +kernel, rfl, by decide +kernel, by decide +kernel⟩
theorem ok_is_set (A : Fc K mg) (F : FnQ K "is_set" "is_set" (top 22) [] a fd) (c_is_between : Cal Zg P w K mg base 2 "is_between" ["thing", "low", "high"] F_is_between) (c_rises : Cal Zg P w K mg base 1 "rises" ["row"] F_rises) : FnG Zg P w K mg base 3 a fd ["thing", "many"] (spF K 2 F_is_set) :=
  have S := sc_is_set
  fnG_of F S (by decide) fun cdv A' outer s H E hr hgd =>
    have tk : Takes (cxOf (L2.CX P w) P w K mg base ["thing", "many", "one"] "is_set" (defScope (top 22)) a cdv A' outer s H E) (WE E) := takes_of rfl rfl rfl rfl
    have ps : PassesOwn (model P w) (cxOf (L2.CX P w) P w K mg base ["thing", "many", "one"] "is_set" (defScope (top 22)) a cdv A' outer s H E).A (cxOf (L2.CX P w) P w K mg base ["thing", "many", "one"] "is_set" (defScope (top 22)) a cdv A' outer s H E).env (cxOf (L2.CX P w) P w K mg base ["thing", "many", "one"] "is_set" (defScope (top 22)) a cdv A' outer s H E).xe := passes_of rfl
    (mss_cons (ms_ret (m_and (g_isi .tuple A.isinstance A.tuple (ME.mb (gv 0))) (m_and (g_all A.all (mab_cons (ME.mb (ML.me (ml_lc (own := [("one", 2)]) bok_name rfl S.nd (mic_seq (ME.mb (gv 0))) (blkOk_by (by rfl)) (fun _ _ _ _ _ => (g_nm 2 S.nd)) (fun _ _ _ _ _ => mts_nil) (fun _ _ _ _ _ => (g_call c_is_between hr hgd takes_F (ma_cons (gv 2) (ma_cons m_int (ma_cons (m_op p_sub (ME.mb (gv 1)) (ME.mb m_int)) ma_nil))) (alen_cons (alen_cons (alen_cons alen_nil)))))))) mab_nil)) (m_one (g_call c_rises hr hgd tk (ma_cons (gv 0) ma_nil) (alen_cons alen_nil)))))) mss_nil)
theorem sc_is_group : FnScope ["many", "thing"] ["many", "thing"] (defScope (top 45)) := ⟨rfl, rfl, rfl, by decide +kernel, rfl, by decide +kernel, by decide +kernel⟩
theorem ok_is_group (A : Fc K mg) (F : FnQ K "is_group" "is_group" (top 45) [] a fd) (c_is_between : Cal Zg P w K mg base 2 "is_between" ["thing", "low", "high"] F_is_between) (c_is_set : Cal Zg P w K mg base 3 "is_set" ["thing", "many"] F_is_set) : FnG Zg P w K mg base 4 a fd ["many", "thing"] (spF K 2 F_is_group) :=
  have S := sc_is_group
  fnG_of F S (by decide) fun cdv A' outer s H E hr hgd =>
    have tk : Takes (cxOf (L2.CX P w) P w K mg base ["many", "thing"] "is_group" (defScope (top 45)) a cdv A' outer s H E) (WE E) := takes_of rfl rfl rfl rfl
    have ps : PassesOwn (model P w) (cxOf (L2.CX P w) P w K mg base ["many", "thing"] "is_group" (defScope (top 45)) a cdv A' outer s H E).A (cxOf (L2.CX P w) P w K mg base ["many", "thing"] "is_group" (defScope (top 45)) a cdv A' outer s H E).env (cxOf (L2.CX P w) P w K mg base ["many", "thing"] "is_group" (defScope (top 45)) a cdv A' outer s H E).xe := passes_of rfl
    (mss_cons (ms_if (MW.mt (mw_or (mt_not (mt_val (g_isi .tuple A.isinstance A.tuple (ME.mb (gv 1))))) (mw_or (gt_cmp (o_ne hr) (ME.mb (g_len A.len (mab_cons (ME.mb (gv 1)) mab_nil))) (ME.mb m_int)) (mw_or1 (mt_not (mt_val (g_call c_is_between hr hgd tk (ma_cons (g_ix (ME.mb (gv 1)) m_int) (ma_cons m_int (ma_cons (gI A.MOST_LIMIT) ma_nil))) (alen_cons (alen_cons (alen_cons alen_nil)))))))))) (mss_cons (ms_ret m_bl) mss_nil) mss_nil) (mss_cons (ms_ret (m_and (g_call c_is_set hr hgd tk (ma_cons (g_ix (ME.mb (gv 1)) m_int) (ma_cons (gv 0) ma_nil)) (alen_cons (alen_cons alen_nil))) (m_one (g_cmp (o_ne hr) (ME.mb (g_ix (ME.mb (gv 1)) m_int)) (ME.mb (m_tup ma_nil)))))) mss_nil))
theorem sc_are_groups : FnScope ["many", "thing", "group"] ["many", "thing"] (defScope (top 46)) := ⟨rfl, rfl, rfl, by decide +kernel, rfl, by decide +kernel, by decide +kernel⟩
theorem ok_are_groups (A : Fc K mg) (F : FnQ K "are_groups" "are_groups" (top 46) [] a fd) (c_is_group : Cal Zg P w K mg base 4 "is_group" ["many", "thing"] F_is_group) : FnG Zg P w K mg base 5 a fd ["many", "thing"] (spF K 2 F_are_groups) :=
  have S := sc_are_groups
  fnG_of F S (by decide) fun cdv A' outer s H E hr hgd =>
    have tk : Takes (cxOf (L2.CX P w) P w K mg base ["many", "thing", "group"] "are_groups" (defScope (top 46)) a cdv A' outer s H E) (WE E) := takes_of rfl rfl rfl rfl
    have ps : PassesOwn (model P w) (cxOf (L2.CX P w) P w K mg base ["many", "thing", "group"] "are_groups" (defScope (top 46)) a cdv A' outer s H E).A (cxOf (L2.CX P w) P w K mg base ["many", "thing", "group"] "are_groups" (defScope (top 46)) a cdv A' outer s H E).env (cxOf (L2.CX P w) P w K mg base ["many", "thing", "group"] "are_groups" (defScope (top 46)) a cdv A' outer s H E).xe := passes_of rfl
    (mss_cons (ms_ret (m_and (g_isi .tuple A.isinstance A.tuple (ME.mb (gv 1))) (m_and (g_cmp o_le (ME.mb (g_len A.len (mab_cons (ME.mb (gv 1)) mab_nil))) (ME.mb (gI A.MOST_GROUPS))) (m_one (g_all A.all (mab_cons (ME.mb (ML.me (ml_lc (own := [("group", 2)]) bok_name rfl S.nd (mic_seq (ME.mb (gv 1))) (blkOk_by (by rfl)) (fun _ _ _ _ _ => (g_nm 2 S.nd)) (fun _ _ _ _ _ => mts_nil) (fun _ _ _ _ _ => (g_call c_is_group hr hgd takes_F (ma_cons (gv 0) (ma_cons (gv 2) ma_nil)) (alen_cons (alen_cons alen_nil))))))) mab_nil)))))) mss_nil)
theorem sc_are_apart : FnScope ["one", "other", "thing"] ["one", "other"] (defScope (top 24)) := ⟨rfl, rfl, rfl, by decide +kernel, rfl, by decide +kernel, by decide +kernel⟩
theorem ok_are_apart (A : Fc K mg) (F : FnQ K "are_apart" "are_apart" (top 24) [] a fd)  : FnG Zg P w K mg base 1 a fd ["one", "other"] (spF K 2 F_are_apart) :=
  have S := sc_are_apart
  fnG_of F S (by decide) fun cdv A' outer s H E hr hgd =>
    have tk : Takes (cxOf (L2.CX P w) P w K mg base ["one", "other", "thing"] "are_apart" (defScope (top 24)) a cdv A' outer s H E) (WE E) := takes_of rfl rfl rfl rfl
    have ps : PassesOwn (model P w) (cxOf (L2.CX P w) P w K mg base ["one", "other", "thing"] "are_apart" (defScope (top 24)) a cdv A' outer s H E).A (cxOf (L2.CX P w) P w K mg base ["one", "other", "thing"] "are_apart" (defScope (top 24)) a cdv A' outer s H E).env (cxOf (L2.CX P w) P w K mg base ["one", "other", "thing"] "are_apart" (defScope (top 24)) a cdv A' outer s H E).xe := passes_of rfl
    (mss_cons (ms_ret (m_not (g_any A.any (mab_cons (ME.mb (ML.me (ml_lc (own := [("thing", 2)]) bok_name rfl S.nd (mic_seq (ME.mb (gv 0))) (blkOk_by (by rfl)) (fun _ _ _ _ _ => (g_nm 2 S.nd)) (fun _ _ _ _ _ => mts_nil) (fun _ _ _ _ _ => (g_in p_in (ME.mb (gv 2)) (ME.mb (gv 1))))))) mab_nil)))) mss_nil)
theorem sc_is_inside : FnScope ["one", "other", "thing"] ["one", "other"] (defScope (top 25)) := ⟨rfl, rfl, rfl, by decide +kernel, rfl, by decide +kernel, by decide +kernel⟩
theorem ok_is_inside (A : Fc K mg) (F : FnQ K "is_inside" "is_inside" (top 25) [] a fd)  : FnG Zg P w K mg base 1 a fd ["one", "other"] (spF K 2 F_is_inside) :=
  have S := sc_is_inside
  fnG_of F S (by decide) fun cdv A' outer s H E hr hgd =>
    have tk : Takes (cxOf (L2.CX P w) P w K mg base ["one", "other", "thing"] "is_inside" (defScope (top 25)) a cdv A' outer s H E) (WE E) := takes_of rfl rfl rfl rfl
    have ps : PassesOwn (model P w) (cxOf (L2.CX P w) P w K mg base ["one", "other", "thing"] "is_inside" (defScope (top 25)) a cdv A' outer s H E).A (cxOf (L2.CX P w) P w K mg base ["one", "other", "thing"] "is_inside" (defScope (top 25)) a cdv A' outer s H E).env (cxOf (L2.CX P w) P w K mg base ["one", "other", "thing"] "is_inside" (defScope (top 25)) a cdv A' outer s H E).xe := passes_of rfl
    (mss_cons (ms_ret (g_all A.all (mab_cons (ME.mb (ML.me (ml_lc (own := [("thing", 2)]) bok_name rfl S.nd (mic_seq (ME.mb (gv 0))) (blkOk_by (by rfl)) (fun _ _ _ _ _ => (g_nm 2 S.nd)) (fun _ _ _ _ _ => mts_nil) (fun _ _ _ _ _ => (g_in p_in (ME.mb (gv 2)) (ME.mb (gv 1))))))) mab_nil))) mss_nil)
theorem sc_do_cross : FnScope ["one", "other"] ["one", "other"] (defScope (top 47)) := ⟨rfl, rfl, rfl, by decide +kernel, rfl, by decide +kernel, by decide +kernel⟩
theorem ok_do_cross (A : Fc K mg) (F : FnQ K "do_cross" "do_cross" (top 47) [] a fd) (c_are_apart : Cal Zg P w K mg base 1 "are_apart" ["one", "other"] F_are_apart) (c_is_inside : Cal Zg P w K mg base 1 "is_inside" ["one", "other"] F_is_inside) : FnG Zg P w K mg base 2 a fd ["one", "other"] (spF K 2 F_do_cross) :=
  have S := sc_do_cross
  fnG_of F S (by decide) fun cdv A' outer s H E hr hgd =>
    have tk : Takes (cxOf (L2.CX P w) P w K mg base ["one", "other"] "do_cross" (defScope (top 47)) a cdv A' outer s H E) (WE E) := takes_of rfl rfl rfl rfl
    have ps : PassesOwn (model P w) (cxOf (L2.CX P w) P w K mg base ["one", "other"] "do_cross" (defScope (top 47)) a cdv A' outer s H E).A (cxOf (L2.CX P w) P w K mg base ["one", "other"] "do_cross" (defScope (top 47)) a cdv A' outer s H E).env (cxOf (L2.CX P w) P w K mg base ["one", "other"] "do_cross" (defScope (top 47)) a cdv A' outer s H E).xe := passes_of rfl
    (mss_cons (ms_ret (m_or (g_cmp (o_eq hr) (ME.mb (gv 0)) (ME.mb (gv 1))) (m_one (m_not (m_or (g_call c_are_apart hr hgd tk (ma_cons (gv 0) (ma_cons (gv 1) ma_nil)) (alen_cons (alen_cons alen_nil))) (m_or (g_call c_is_inside hr hgd tk (ma_cons (gv 0) (ma_cons (gv 1) ma_nil)) (alen_cons (alen_cons alen_nil))) (m_one (g_call c_is_inside hr hgd tk (ma_cons (gv 1) (ma_cons (gv 0) ma_nil)) (alen_cons (alen_cons alen_nil)))))))))) mss_nil)
theorem sc_first_crossed : FnScope ["groups", "second", "other", "first", "one"] ["groups"] (defScope (top 48)) := ⟨rfl, rfl, rfl, by decide +kernel, rfl, by decide +kernel, by decide +kernel⟩
theorem ok_first_crossed (A : Fc K mg) (F : FnQ K "first_crossed" "first_crossed" (top 48) [] a fd) (c_do_cross : Cal Zg P w K mg base 2 "do_cross" ["one", "other"] F_do_cross) : FnG Zg P w K mg base 3 a fd ["groups"] (spF K 1 F_first_crossed) :=
  have S := sc_first_crossed
  fnG_of F S (by decide) fun cdv A' outer s H E hr hgd =>
    have tk : Takes (cxOf (L2.CX P w) P w K mg base ["groups", "second", "other", "first", "one"] "first_crossed" (defScope (top 48)) a cdv A' outer s H E) (WE E) := takes_of rfl rfl rfl rfl
    have ps : PassesOwn (model P w) (cxOf (L2.CX P w) P w K mg base ["groups", "second", "other", "first", "one"] "first_crossed" (defScope (top 48)) a cdv A' outer s H E).A (cxOf (L2.CX P w) P w K mg base ["groups", "second", "other", "first", "one"] "first_crossed" (defScope (top 48)) a cdv A' outer s H E).env (cxOf (L2.CX P w) P w K mg base ["groups", "second", "other", "first", "one"] "first_crossed" (defScope (top 48)) a cdv A' outer s H E).xe := passes_of rfl
    (mss_cons (ms_for ps rfl (mi_enum rfl A.enumerate (ma_cons (gv 0) ma_nil)) (mg_tup rfl (mgs_cons (g_nm 1 S.nd) (mgs_cons (g_nm 2 S.nd) mgs_nil))) (mss_cons (ms_for ps rfl (mi_enum rfl A.enumerate (ma_cons (m_slice (ME.mb (gv 0)) mo_none (mo_some (gv 1))) ma_nil)) (mg_tup rfl (mgs_cons (g_nm 3 S.nd) (mgs_cons (g_nm 4 S.nd) mgs_nil))) (mss_cons (ms_if (mt_val (g_call c_do_cross hr hgd tk (ma_cons (g_ix (ME.mb (gv 4)) m_int) (ma_cons (g_ix (ME.mb (gv 2)) m_int) ma_nil)) (alen_cons (alen_cons alen_nil)))) (mss_cons (ms_ret (m_tup (ma_cons (gv 3) (ma_cons (gv 1) ma_nil)))) mss_nil) mss_nil) mss_nil)) mss_nil)) (mss_cons (ms_ret m_non) mss_nil))
theorem sc_Receipt___init__ : FnScope ["self", "prices", "deals", "groups", "found"] ["self", "prices", "deals", "groups"] (defScope (meth 49 1)) := ⟨rfl, rfl, rfl, by decide +kernel, rfl, by decide +kernel, by decide +kernel⟩
theorem ok_Receipt___init__ (A : Fc K mg) (F : FnQ K "__init__" "Receipt.__init__" (meth 49 1) dvs a fd) (c_are_deals : Cal Zg P w K mg base 5 "are_deals" ["prices", "thing"] F_are_deals) (c_are_groups : Cal Zg P w K mg base 5 "are_groups" ["many", "thing"] F_are_groups) (c_are_prices : Cal Zg P w K mg base 3 "are_prices" ["thing"] F_are_prices) (c_first_crossed : Cal Zg P w K mg base 3 "first_crossed" ["groups"] F_first_crossed) : FnG Zg P w K mg base 6 a fd ["self", "prices", "deals", "groups"] (spF K 4 F_Receipt___init__) :=
  have S := sc_Receipt___init__
  fnG_of F S (by decide) fun cdv A' outer s H E hr hgd =>
    have tk : Takes (cxOf (L2.CX P w) P w K mg base ["self", "prices", "deals", "groups", "found"] "Receipt.__init__" (defScope (meth 49 1)) a cdv A' outer s H E) (WE E) := takes_of rfl rfl rfl rfl
    have ps : PassesOwn (model P w) (cxOf (L2.CX P w) P w K mg base ["self", "prices", "deals", "groups", "found"] "Receipt.__init__" (defScope (meth 49 1)) a cdv A' outer s H E).A (cxOf (L2.CX P w) P w K mg base ["self", "prices", "deals", "groups", "found"] "Receipt.__init__" (defScope (meth 49 1)) a cdv A' outer s H E).env (cxOf (L2.CX P w) P w K mg base ["self", "prices", "deals", "groups", "found"] "Receipt.__init__" (defScope (meth 49 1)) a cdv A' outer s H E).xe := passes_of rfl
    (mss_cons (ms_if (mt_not (mt_val (g_call c_are_prices hr hgd tk (ma_cons (gv 1) ma_nil) (alen_cons alen_nil)))) (mss_cons ms_never mss_nil) mss_nil) (mss_cons (ms_if (mt_not (mt_val (g_call c_are_deals hr hgd tk (ma_cons (gv 1) (ma_cons (gv 2) ma_nil)) (alen_cons (alen_cons alen_nil))))) (mss_cons ms_never mss_nil) mss_nil) (mss_cons (ms_if (mt_not (mt_val (g_call c_are_groups hr hgd tk (ma_cons (g_len A.len (mab_cons (ME.mb (gv 2)) mab_nil)) (ma_cons (gv 3) ma_nil)) (alen_cons (alen_cons alen_nil))))) (mss_cons ms_never mss_nil) mss_nil) (mss_cons (g_set 4 S.nd (g_call c_first_crossed hr hgd tk (ma_cons (gv 3) ma_nil) (alen_cons alen_nil))) (mss_cons (ms_if (gt_cmp p_isnt (ME.mb (gv 4)) (ME.mb m_non)) (mss_cons ms_never mss_nil) mss_nil) (mss_cons (ms_asgX (m_tup (ma_cons (gv 1) (ma_cons (gv 2) (ma_cons (gv 3) ma_nil)))) (mx_tup rfl (mxs_cons (mx_fld (gv 0) A.cls_Receipt A.na_Receipt_costs) (mxs_cons (mx_fld (gv 0) A.cls_Receipt A.na_Receipt_offers) (mxs_cons (mx_fld (gv 0) A.cls_Receipt A.na_Receipt_bounds) mxs_nil)))) (hx := (gxok_tup (gxoks_cons gxok_fld (gxoks_cons gxok_fld (gxoks_cons gxok_fld gxoks_nil)))))) mss_nil))))))
theorem sc_Receipt_read : FnScope ["cls", "text", "prices", "deals", "groups"] ["cls", "text"] (defScope (meth 49 2)) := ⟨rfl, rfl, rfl, by decide +kernel, rfl, by decide +kernel, by decide +kernel⟩
theorem ok_Receipt_read (A : Fc K mg) (F : FnQ K "read" "Receipt.read" (meth 49 2) [] a fd) (m_Receipt : Maker Zg P w K mg base 6 "Receipt" ["self", "prices", "deals", "groups"] [.tup [], .tup []] F_Receipt___init__ sh_Receipt) (c_are_deals : Cal Zg P w K mg base 5 "are_deals" ["prices", "thing"] F_are_deals) (c_are_groups : Cal Zg P w K mg base 5 "are_groups" ["many", "thing"] F_are_groups) (c_are_prices : Cal Zg P w K mg base 3 "are_prices" ["thing"] F_are_prices) (c_first_crossed : Cal Zg P w K mg base 3 "first_crossed" ["groups"] F_first_crossed) (c_parts_in : Cal Zg P w K mg base 4 "parts_in" ["text"] F_parts_in) : FnG Zg P w K mg base 8 a fd ["cls", "text"] (spF K 2 F_Receipt_read) :=
  have S := sc_Receipt_read
  fnG_of F S (by decide) fun cdv A' outer s H E hr hgd =>
    have tk : Takes (cxOf (L2.CX P w) P w K mg base ["cls", "text", "prices", "deals", "groups"] "Receipt.read" (defScope (meth 49 2)) a cdv A' outer s H E) (WE E) := takes_of rfl rfl rfl rfl
    have ps : PassesOwn (model P w) (cxOf (L2.CX P w) P w K mg base ["cls", "text", "prices", "deals", "groups"] "Receipt.read" (defScope (meth 49 2)) a cdv A' outer s H E).A (cxOf (L2.CX P w) P w K mg base ["cls", "text", "prices", "deals", "groups"] "Receipt.read" (defScope (meth 49 2)) a cdv A' outer s H E).env (cxOf (L2.CX P w) P w K mg base ["cls", "text", "prices", "deals", "groups"] "Receipt.read" (defScope (meth 49 2)) a cdv A' outer s H E).xe := passes_of rfl
    (mss_cons (g_asg (g_call c_parts_in hr hgd tk (ma_cons (gv 1) ma_nil) (alen_cons alen_nil)) (mg_tup rfl (mgs_cons (g_nm 2 S.nd) (mgs_cons (g_nm 3 S.nd) (mgs_cons (g_nm 4 S.nd) mgs_nil))))) (mss_cons (ms_if (MW.mt (mw_or (mt_not (mt_val (g_call c_are_prices hr hgd tk (ma_cons (gv 2) ma_nil) (alen_cons alen_nil)))) (mw_or (mt_not (mt_val (g_call c_are_deals hr hgd tk (ma_cons (gv 2) (ma_cons (gv 3) ma_nil)) (alen_cons (alen_cons alen_nil))))) (mw_or1 (mt_not (mt_val (g_call c_are_groups hr hgd tk (ma_cons (g_len A.len (mab_cons (ME.mb (gv 3)) mab_nil)) (ma_cons (gv 4) ma_nil)) (alen_cons (alen_cons alen_nil))))))))) (mss_cons ms_never mss_nil) mss_nil) (mss_cons (ms_if (gt_cmp p_isnt (ME.mb (g_call c_first_crossed hr hgd tk (ma_cons (gv 4) ma_nil) (alen_cons alen_nil))) (ME.mb m_non)) (mss_cons ms_never mss_nil) mss_nil) (mss_cons (ms_ret (g_makeV 3 [.pos 1, .pos 2, .pos 3] (gv 0) m_Receipt (List.mem_of_getElem? (i := 0) rfl) hr hgd tk (ma_cons (gv 2) (ma_cons (gv 3) (ma_cons (gv 4) ma_nil))) mk_nil)) mss_nil))))
theorem sc_Receipt_total : FnScope ["self", "price"] ["self"] (defScope (meth 49 7)) := ⟨rfl, rfl, rfl, by decide +kernel, rfl, by decide +kernel, by decide +kernel⟩
theorem ok_Receipt_total (A : Fc K mg) (F : FnQ K "total" "Receipt.total" (meth 49 7) [] a fd)  : FnG Zg P w K mg base 1 a fd ["self"] (spF K 1 F_Receipt_total) :=
  have S := sc_Receipt_total
  fnG_of F S (by decide) fun cdv A' outer s H E hr hgd =>
    have tk : Takes (cxOf (L2.CX P w) P w K mg base ["self", "price"] "Receipt.total" (defScope (meth 49 7)) a cdv A' outer s H E) (WE E) := takes_of rfl rfl rfl rfl
    have ps : PassesOwn (model P w) (cxOf (L2.CX P w) P w K mg base ["self", "price"] "Receipt.total" (defScope (meth 49 7)) a cdv A' outer s H E).A (cxOf (L2.CX P w) P w K mg base ["self", "price"] "Receipt.total" (defScope (meth 49 7)) a cdv A' outer s H E).env (cxOf (L2.CX P w) P w K mg base ["self", "price"] "Receipt.total" (defScope (meth 49 7)) a cdv A' outer s H E).xe := passes_of rfl
    (mss_cons (ms_ret (g_sum A.sum (mab_cons (ME.mb (ML.me (ml_lc (own := [("price", 1)]) bok_name rfl S.nd (mic_seq (ME.mb (g_fld "Receipt" (gv 0) A.cls_Receipt A.na_Receipt_costs))) (blkOk_by (by rfl)) (fun _ _ _ _ _ => (g_nm 1 S.nd)) (fun _ _ _ _ _ => mts_nil) (fun _ _ _ _ _ => (gv 1))))) mab_nil))) mss_nil)
theorem sc_Receipt_groups : FnScope ["self"] ["self"] (defScope (meth 49 6)) := ⟨rfl, rfl, rfl, by decide +kernel, rfl, by decide +kernel, by decide +kernel⟩
theorem ok_Receipt_groups (A : Fc K mg) (F : FnQ K "groups" "Receipt.groups" (meth 49 6) [] a fd)  : FnG Zg P w K mg base 1 a fd ["self"] (spF K 1 F_Receipt_groups) :=
  have S := sc_Receipt_groups
  fnG_of F S (by decide) fun cdv A' outer s H E hr hgd =>
    have tk : Takes (cxOf (L2.CX P w) P w K mg base ["self"] "Receipt.groups" (defScope (meth 49 6)) a cdv A' outer s H E) (WE E) := takes_of rfl rfl rfl rfl
    have ps : PassesOwn (model P w) (cxOf (L2.CX P w) P w K mg base ["self"] "Receipt.groups" (defScope (meth 49 6)) a cdv A' outer s H E).A (cxOf (L2.CX P w) P w K mg base ["self"] "Receipt.groups" (defScope (meth 49 6)) a cdv A' outer s H E).env (cxOf (L2.CX P w) P w K mg base ["self"] "Receipt.groups" (defScope (meth 49 6)) a cdv A' outer s H E).xe := passes_of rfl
    (mss_cons (ms_ret (g_fld "Receipt" (gv 0) A.cls_Receipt A.na_Receipt_bounds)) mss_nil)
theorem sc_Receipt_deals : FnScope ["self"] ["self"] (defScope (meth 49 5)) := ⟨rfl, rfl, rfl, by decide +kernel, rfl, by decide +kernel, by decide +kernel⟩
theorem ok_Receipt_deals (A : Fc K mg) (F : FnQ K "deals" "Receipt.deals" (meth 49 5) [] a fd)  : FnG Zg P w K mg base 1 a fd ["self"] (spF K 1 F_Receipt_deals) :=
  have S := sc_Receipt_deals
  fnG_of F S (by decide) fun cdv A' outer s H E hr hgd =>
    have tk : Takes (cxOf (L2.CX P w) P w K mg base ["self"] "Receipt.deals" (defScope (meth 49 5)) a cdv A' outer s H E) (WE E) := takes_of rfl rfl rfl rfl
    have ps : PassesOwn (model P w) (cxOf (L2.CX P w) P w K mg base ["self"] "Receipt.deals" (defScope (meth 49 5)) a cdv A' outer s H E).A (cxOf (L2.CX P w) P w K mg base ["self"] "Receipt.deals" (defScope (meth 49 5)) a cdv A' outer s H E).env (cxOf (L2.CX P w) P w K mg base ["self"] "Receipt.deals" (defScope (meth 49 5)) a cdv A' outer s H E).xe := passes_of rfl
    (mss_cons (ms_ret (g_fld "Receipt" (gv 0) A.cls_Receipt A.na_Receipt_offers)) mss_nil)
theorem sc_Receipt_prices : FnScope ["self"] ["self"] (defScope (meth 49 4)) := ⟨rfl, rfl, rfl, by decide +kernel, rfl, by decide +kernel, by decide +kernel⟩
theorem ok_Receipt_prices (A : Fc K mg) (F : FnQ K "prices" "Receipt.prices" (meth 49 4) [] a fd)  : FnG Zg P w K mg base 1 a fd ["self"] (spF K 1 F_Receipt_prices) :=
  have S := sc_Receipt_prices
  fnG_of F S (by decide) fun cdv A' outer s H E hr hgd =>
    have tk : Takes (cxOf (L2.CX P w) P w K mg base ["self"] "Receipt.prices" (defScope (meth 49 4)) a cdv A' outer s H E) (WE E) := takes_of rfl rfl rfl rfl
    have ps : PassesOwn (model P w) (cxOf (L2.CX P w) P w K mg base ["self"] "Receipt.prices" (defScope (meth 49 4)) a cdv A' outer s H E).A (cxOf (L2.CX P w) P w K mg base ["self"] "Receipt.prices" (defScope (meth 49 4)) a cdv A' outer s H E).env (cxOf (L2.CX P w) P w K mg base ["self"] "Receipt.prices" (defScope (meth 49 4)) a cdv A' outer s H E).xe := passes_of rfl
    (mss_cons (ms_ret (g_fld "Receipt" (gv 0) A.cls_Receipt A.na_Receipt_costs)) mss_nil)
theorem sc_Receipt_text : FnScope ["self", "line"] ["self"] (defScope (meth 49 3)) := ⟨rfl, rfl, rfl, by decide +kernel, rfl, by decide +kernel, by decide +kernel⟩
theorem ok_Receipt_text (A : Fc K mg) (F : FnQ K "text" "Receipt.text" (meth 49 3) [] a fd) (c_receipt_lines : Cal Zg P w K mg base 2 "receipt_lines" ["prices", "deals", "groups"] F_receipt_lines) : FnG Zg P w K mg base 3 a fd ["self"] (spF K 1 F_Receipt_text) :=
  have S := sc_Receipt_text
  fnG_of F S (by decide) fun cdv A' outer s H E hr hgd =>
    have tk : Takes (cxOf (L2.CX P w) P w K mg base ["self", "line"] "Receipt.text" (defScope (meth 49 3)) a cdv A' outer s H E) (WE E) := takes_of rfl rfl rfl rfl
    have ps : PassesOwn (model P w) (cxOf (L2.CX P w) P w K mg base ["self", "line"] "Receipt.text" (defScope (meth 49 3)) a cdv A' outer s H E).A (cxOf (L2.CX P w) P w K mg base ["self", "line"] "Receipt.text" (defScope (meth 49 3)) a cdv A' outer s H E).env (cxOf (L2.CX P w) P w K mg base ["self", "line"] "Receipt.text" (defScope (meth 49 3)) a cdv A' outer s H E).xe := passes_of rfl
    (mss_cons (ms_ret (m_join m_str (ME.mb (ML.me (ml_lc (own := [("line", 1)]) bok_name rfl S.nd (mic_seq (ME.mb (g_call c_receipt_lines hr hgd tk (ma_cons (g_fld "Receipt" (gv 0) A.cls_Receipt A.na_Receipt_costs) (ma_cons (g_fld "Receipt" (gv 0) A.cls_Receipt A.na_Receipt_offers) (ma_cons (g_fld "Receipt" (gv 0) A.cls_Receipt A.na_Receipt_bounds) ma_nil))) (alen_cons (alen_cons (alen_cons alen_nil)))))) (blkOk_by (by rfl)) (fun _ _ _ _ _ => (g_nm 1 S.nd)) (fun _ _ _ _ _ => mts_nil) (fun _ _ _ _ _ => (m_op p_add (ME.mb (gv 1)) (ME.mb m_str)))))))) mss_nil)
theorem sc_Receipt___repr__ : FnScope ["self"] ["self"] (defScope (meth 49 18)) := ⟨rfl, rfl, rfl, by decide +kernel, rfl, by decide +kernel, by decide +kernel⟩
theorem ok_Receipt___repr__ (A : Fc K mg) (F : FnQ K "__repr__" "Receipt.__repr__" (meth 49 18) [] a fd)  : FnG Zg P w K mg base 1 a fd ["self"] (spF K 1 F_Receipt___repr__) :=
  have S := sc_Receipt___repr__
  fnG_of F S (by decide) fun cdv A' outer s H E hr hgd =>
    have tk : Takes (cxOf (L2.CX P w) P w K mg base ["self"] "Receipt.__repr__" (defScope (meth 49 18)) a cdv A' outer s H E) (WE E) := takes_of rfl rfl rfl rfl
    have ps : PassesOwn (model P w) (cxOf (L2.CX P w) P w K mg base ["self"] "Receipt.__repr__" (defScope (meth 49 18)) a cdv A' outer s H E).A (cxOf (L2.CX P w) P w K mg base ["self"] "Receipt.__repr__" (defScope (meth 49 18)) a cdv A' outer s H E).env (cxOf (L2.CX P w) P w K mg base ["self"] "Receipt.__repr__" (defScope (meth 49 18)) a cdv A' outer s H E).xe := passes_of rfl
    (mss_cons (ms_ret (m_jstr (mj_cons m_str (mj_cons (m_fmt (g_len A.len (mab_cons (ME.mb (g_fld "Receipt" (gv 0) A.cls_Receipt A.na_Receipt_costs)) mab_nil))) (mj_cons m_str (mj_cons (m_fmt (g_len A.len (mab_cons (ME.mb (g_fld "Receipt" (gv 0) A.cls_Receipt A.na_Receipt_offers)) mab_nil))) (mj_cons m_str (mj_cons (m_fmt (g_len A.len (mab_cons (ME.mb (g_fld "Receipt" (gv 0) A.cls_Receipt A.na_Receipt_bounds)) mab_nil))) (mj_cons m_str mj_nil))))))))) mss_nil)
theorem sc_Receipt___len__ : FnScope ["self"] ["self"] (defScope (meth 49 10)) := ⟨rfl, rfl, rfl, by decide +kernel, rfl, by decide +kernel, by decide +kernel⟩
theorem ok_Receipt___len__ (A : Fc K mg) (F : FnQ K "__len__" "Receipt.__len__" (meth 49 10) [] a fd)  : FnG Zg P w K mg base 1 a fd ["self"] (spF K 1 F_Receipt___len__) :=
  have S := sc_Receipt___len__
  fnG_of F S (by decide) fun cdv A' outer s H E hr hgd =>
    have tk : Takes (cxOf (L2.CX P w) P w K mg base ["self"] "Receipt.__len__" (defScope (meth 49 10)) a cdv A' outer s H E) (WE E) := takes_of rfl rfl rfl rfl
    have ps : PassesOwn (model P w) (cxOf (L2.CX P w) P w K mg base ["self"] "Receipt.__len__" (defScope (meth 49 10)) a cdv A' outer s H E).A (cxOf (L2.CX P w) P w K mg base ["self"] "Receipt.__len__" (defScope (meth 49 10)) a cdv A' outer s H E).env (cxOf (L2.CX P w) P w K mg base ["self"] "Receipt.__len__" (defScope (meth 49 10)) a cdv A' outer s H E).xe := passes_of rfl
    (mss_cons (ms_ret (g_len A.len (mab_cons (ME.mb (g_fld "Receipt" (gv 0) A.cls_Receipt A.na_Receipt_offers)) mab_nil))) mss_nil)
theorem sc__law_seen : FnScope ["_law_receipt_here", "_law_row"] ["_law_receipt_here"] (defScope (top 66)) := ⟨rfl, rfl, rfl, by decide +kernel, rfl, by decide +kernel, by decide +kernel⟩
theorem ok__law_seen (A : Fc K mg) (F : FnQ K "_law_seen" "_law_seen" (top 66) [] a fd) (c_Receipt___len__ : CalA Zg P w K mg base 1 (He.ma K (He.ga K "Receipt") "__len__") ["self"] F_Receipt___len__) (c_Receipt___repr__ : CalA Zg P w K mg base 1 (He.ma K (He.ga K "Receipt") "__repr__") ["self"] F_Receipt___repr__) (c_Receipt_deals : CalA Zg P w K mg base 1 (prA K "Receipt" "deals") ["self"] F_Receipt_deals) (c_Receipt_groups : CalA Zg P w K mg base 1 (prA K "Receipt" "groups") ["self"] F_Receipt_groups) (c_Receipt_prices : CalA Zg P w K mg base 1 (prA K "Receipt" "prices") ["self"] F_Receipt_prices) (c_Receipt_text : CalA Zg P w K mg base 3 (He.ma K (He.ga K "Receipt") "text") ["self"] F_Receipt_text) (c_Receipt_total : CalA Zg P w K mg base 1 (prA K "Receipt" "total") ["self"] F_Receipt_total) : FnG Zg P w K mg base 4 a fd ["_law_receipt_here"] (spF K 1 F__law_seen) :=
  have S := sc__law_seen
  fnG_of F S (by decide) fun cdv A' outer s H E hr hgd =>
    have tk : Takes (cxOf (L2.CX P w) P w K mg base ["_law_receipt_here", "_law_row"] "_law_seen" (defScope (top 66)) a cdv A' outer s H E) (WE E) := takes_of rfl rfl rfl rfl
    have ps : PassesOwn (model P w) (cxOf (L2.CX P w) P w K mg base ["_law_receipt_here", "_law_row"] "_law_seen" (defScope (top 66)) a cdv A' outer s H E).A (cxOf (L2.CX P w) P w K mg base ["_law_receipt_here", "_law_row"] "_law_seen" (defScope (top 66)) a cdv A' outer s H E).env (cxOf (L2.CX P w) P w K mg base ["_law_receipt_here", "_law_row"] "_law_seen" (defScope (top 66)) a cdv A' outer s H E).xe := passes_of rfl
    (mss_cons (g_set 1 S.nd (m_tup (ma_cons (g_prop (gv 0) A.cls_Receipt A.pr_Receipt_prices c_Receipt_prices hr hgd) (ma_cons (g_prop (gv 0) A.cls_Receipt A.pr_Receipt_deals c_Receipt_deals hr hgd) (ma_cons (g_prop (gv 0) A.cls_Receipt A.pr_Receipt_groups c_Receipt_groups hr hgd) (ma_cons (g_prop (gv 0) A.cls_Receipt A.pr_Receipt_total c_Receipt_total hr hgd) ma_nil)))))) (mss_cons (ms_ret (m_op p_add (ME.mb (gv 1)) (ME.mb (m_tup (ma_cons (g_lenO (c0 := "Receipt") (gv 0) A.me_Receipt___len__ c_Receipt___len__ hr hgd A.len) (ma_cons (g_reprO (c0 := "Receipt") (gv 0) A.me_Receipt___repr__ c_Receipt___repr__ hr hgd A.repr) (ma_cons (g_meth0 (gv 0) A.cls_Receipt A.me_Receipt_text c_Receipt_text hr hgd tk) ma_nil))))))) mss_nil))
theorem sc__law_same : FnScope ["_law_found", "_law_due_here"] ["_law_found", "_law_due_here"] (defScope (top 65)) := ⟨rfl, rfl, rfl, by decide +kernel, rfl, by decide +kernel, by decide +kernel⟩
theorem ok__law_same (A : Fc K mg) (F : FnQ K "_law_same" "_law_same" (top 65) [] a fd)  : FnG True P w K mg base 1 a fd ["_law_found", "_law_due_here"] (spF K 2 F__law_same) :=
  have S := sc__law_same
  fnG_of F S (by decide) fun cdv A' outer s H E hr hgd =>
    have tk : Takes (cxOf (L2.CX P w) P w K mg base ["_law_found", "_law_due_here"] "_law_same" (defScope (top 65)) a cdv A' outer s H E) (WE E) := takes_of rfl rfl rfl rfl
    have ps : PassesOwn (model P w) (cxOf (L2.CX P w) P w K mg base ["_law_found", "_law_due_here"] "_law_same" (defScope (top 65)) a cdv A' outer s H E).A (cxOf (L2.CX P w) P w K mg base ["_law_found", "_law_due_here"] "_law_same" (defScope (top 65)) a cdv A' outer s H E).env (cxOf (L2.CX P w) P w K mg base ["_law_found", "_law_due_here"] "_law_same" (defScope (top 65)) a cdv A' outer s H E).xe := passes_of rfl
    (mss_cons (ms_ret (g_cmp (o_eq hr) (ME.mb (g_repr hr (hgd trivial) A.repr (mab_cons (ME.mb (gv 0)) mab_nil))) (ME.mb (g_repr hr (hgd trivial) A.repr (mab_cons (ME.mb (gv 1)) mab_nil))))) mss_nil)
theorem sc_Receipt___add__ : FnScope ["self", "deal"] ["self", "deal"] (defScope (meth 49 14)) := ⟨rfl, rfl, rfl, by decide +kernel, rfl, by decide +kernel, by decide +kernel⟩
theorem ok_Receipt___add__ (A : Fc K mg) (F : FnQ K "__add__" "Receipt.__add__" (meth 49 14) [] a fd) (m_Receipt : Maker Zg P w K mg base 6 "Receipt" ["self", "prices", "deals", "groups"] [.tup [], .tup []] F_Receipt___init__ sh_Receipt) (c_is_deal : Cal Zg P w K mg base 4 "is_deal" ["prices", "thing"] F_is_deal) : FnG Zg P w K mg base 8 a fd ["self", "deal"] (spF K 2 F_Receipt___add__) :=
  have S := sc_Receipt___add__
  fnG_of F S (by decide) fun cdv A' outer s H E hr hgd =>
    have tk : Takes (cxOf (L2.CX P w) P w K mg base ["self", "deal"] "Receipt.__add__" (defScope (meth 49 14)) a cdv A' outer s H E) (WE E) := takes_of rfl rfl rfl rfl
    have ps : PassesOwn (model P w) (cxOf (L2.CX P w) P w K mg base ["self", "deal"] "Receipt.__add__" (defScope (meth 49 14)) a cdv A' outer s H E).A (cxOf (L2.CX P w) P w K mg base ["self", "deal"] "Receipt.__add__" (defScope (meth 49 14)) a cdv A' outer s H E).env (cxOf (L2.CX P w) P w K mg base ["self", "deal"] "Receipt.__add__" (defScope (meth 49 14)) a cdv A' outer s H E).xe := passes_of rfl
    (mss_cons (ms_if (mt_not (mt_val (g_call c_is_deal hr hgd tk (ma_cons (g_fld "Receipt" (gv 0) A.cls_Receipt A.na_Receipt_costs) (ma_cons (gv 1) ma_nil)) (alen_cons (alen_cons alen_nil))))) (mss_cons ms_never mss_nil) mss_nil) (mss_cons (ms_if (gt_cmp (o_eq hr) (ME.mb (g_len A.len (mab_cons (ME.mb (g_fld "Receipt" (gv 0) A.cls_Receipt A.na_Receipt_offers)) mab_nil))) (ME.mb (gI A.MOST_DEALS))) (mss_cons ms_never mss_nil) mss_nil) (mss_cons (ms_ret (g_make 3 [.pos 1, .pos 2, .pos 3] m_Receipt (List.mem_of_getElem? (i := 0) rfl) hr hgd tk (ma_cons (g_fld "Receipt" (gv 0) A.cls_Receipt A.na_Receipt_costs) (ma_cons (m_op p_add (ME.mb (g_fld "Receipt" (gv 0) A.cls_Receipt A.na_Receipt_offers)) (ME.mb (m_tup (ma_cons (gv 1) ma_nil)))) (ma_cons (g_fld "Receipt" (gv 0) A.cls_Receipt A.na_Receipt_bounds) ma_nil))) mk_nil)) mss_nil)))
theorem sc_groups_without : FnScope ["groups", "number", "found", "limit", "some", "left", "deal"] ["groups", "number"] (defScope (top 50)) := ⟨rfl, rfl, rfl, by decide +kernel, rfl, by decide +kernel, by decide +kernel⟩
theorem ok_groups_without (A : Fc K mg) (F : FnQ K "groups_without" "groups_without" (top 50) [] a fd)  : FnG Zg P w K mg base 1 a fd ["groups", "number"] (spF K 2 F_groups_without) :=
  have S := sc_groups_without
  FnG.drop <| fnG_of F S (by decide) fun cdv A' outer s H E hr hgd =>
    have tk : Takes (cxOf (L2.CX P w) P w K mg base ["groups", "number", "found", "limit", "some", "left", "deal"] "groups_without" (defScope (top 50)) a cdv A' outer s H E) (WE E) := takes_of rfl rfl rfl rfl
    have ps : PassesOwn (model P w) (cxOf (L2.CX P w) P w K mg base ["groups", "number", "found", "limit", "some", "left", "deal"] "groups_without" (defScope (top 50)) a cdv A' outer s H E).A (cxOf (L2.CX P w) P w K mg base ["groups", "number", "found", "limit", "some", "left", "deal"] "groups_without" (defScope (top 50)) a cdv A' outer s H E).env (cxOf (L2.CX P w) P w K mg base ["groups", "number", "found", "limit", "some", "left", "deal"] "groups_without" (defScope (top 50)) a cdv A' outer s H E).xe := passes_of rfl
    (mss_cons (g_set 2 S.nd m_newT) (mss_cons (ms_for ps rfl (mi_seq (gv 0)) (mg_tup rfl (mgs_cons (g_nm 3 S.nd) (mgs_cons (g_nm 4 S.nd) mgs_nil))) (mss_cons (g_set 5 S.nd (g_tuple A.tuple (mab_cons (ME.mb (ML.me (ml_lc (own := [("deal", 6)]) bok_name rfl S.nd (mic_seq (ME.mb (gv 4))) (blkOk_by (by rfl)) (fun _ _ _ _ _ => (g_nm 6 S.nd)) (fun _ _ _ _ _ => (mts_one (gt_cmp (o_ne hr) (ME.mb (gv 6)) (ME.mb (gv 1))))) (fun _ _ _ _ _ => (m_op p_sub (ME.mb (gv 6)) (ME.mb (g_int A.int (mab_cons (ME.mb (g_cmp o_gt (ME.mb (gv 6)) (ME.mb (gv 1)))) mab_nil)))))))) mab_nil))) (mss_cons (ms_if (gt_cmp (o_ne hr) (ME.mb (gv 5)) (ME.mb (m_tup ma_nil))) (mss_cons (ms_putT hr (g_min A.min (mab_cons (ME.mb (gv 3)) (mab_cons (ME.mb (m_getT2 hr (gv 2) (gv 5) (gv 3))) mab_nil))) (gv 2) (gv 5)) mss_nil) mss_nil) mss_nil))) (mss_cons (ms_ret (g_tuple A.tuple (mab_cons (ME.mb (ML.me (ml_itemsT (own := [("left", 5), ("limit", 3)]) rfl S.nd (i := 2) rfl (by first | exact .inl rfl | exact .inr (.inl rfl) | exact .inr (.inr rfl)) (blkOk_by (by rfl)) rfl (by decide) (fun _ _ _ _ _ => pg_tup rfl (pgs_cons (gp_nm 5 S.nd) (pgs_cons (gp_nm 3 S.nd) pgs_nil))) (fun _ _ _ _ _ => pe_tup (pa_cons (pv_nm 3) (pa_cons (pv_nm 5) pa_nil)))))) mab_nil))) mss_nil)))
theorem sc_Receipt___sub__ : FnScope ["self", "number", "rest"] ["self", "number"] (defScope (meth 49 15)) := ⟨rfl, rfl, rfl, by decide +kernel, rfl, by decide +kernel, by decide +kernel⟩
theorem ok_Receipt___sub__ (A : Fc K mg) (F : FnQ K "__sub__" "Receipt.__sub__" (meth 49 15) [] a fd) (m_Receipt : Maker Zg P w K mg base 6 "Receipt" ["self", "prices", "deals", "groups"] [.tup [], .tup []] F_Receipt___init__ sh_Receipt) (c_groups_without : Cal Zg P w K mg base 1 "groups_without" ["groups", "number"] F_groups_without) (c_is_between : Cal Zg P w K mg base 2 "is_between" ["thing", "low", "high"] F_is_between) : FnG Zg P w K mg base 8 a fd ["self", "number"] (spF K 2 F_Receipt___sub__) :=
  have S := sc_Receipt___sub__
  fnG_of F S (by decide) fun cdv A' outer s H E hr hgd =>
    have tk : Takes (cxOf (L2.CX P w) P w K mg base ["self", "number", "rest"] "Receipt.__sub__" (defScope (meth 49 15)) a cdv A' outer s H E) (WE E) := takes_of rfl rfl rfl rfl
    have ps : PassesOwn (model P w) (cxOf (L2.CX P w) P w K mg base ["self", "number", "rest"] "Receipt.__sub__" (defScope (meth 49 15)) a cdv A' outer s H E).A (cxOf (L2.CX P w) P w K mg base ["self", "number", "rest"] "Receipt.__sub__" (defScope (meth 49 15)) a cdv A' outer s H E).env (cxOf (L2.CX P w) P w K mg base ["self", "number", "rest"] "Receipt.__sub__" (defScope (meth 49 15)) a cdv A' outer s H E).xe := passes_of rfl
    (mss_cons (ms_if (mt_not (mt_val (g_call c_is_between hr hgd tk (ma_cons (gv 1) (ma_cons m_int (ma_cons (m_op p_sub (ME.mb (g_len A.len (mab_cons (ME.mb (g_fld "Receipt" (gv 0) A.cls_Receipt A.na_Receipt_offers)) mab_nil))) (ME.mb m_int)) ma_nil))) (alen_cons (alen_cons (alen_cons alen_nil)))))) (mss_cons ms_never mss_nil) mss_nil) (mss_cons (g_set 2 S.nd (m_op p_add (ME.mb (m_slice (ME.mb (g_fld "Receipt" (gv 0) A.cls_Receipt A.na_Receipt_offers)) mo_none (mo_some (gv 1)))) (ME.mb (m_slice (ME.mb (g_fld "Receipt" (gv 0) A.cls_Receipt A.na_Receipt_offers)) (mo_some (m_op p_add (ME.mb (gv 1)) (ME.mb m_int))) mo_none)))) (mss_cons (ms_ret (g_make 3 [.pos 1, .pos 2, .pos 3] m_Receipt (List.mem_of_getElem? (i := 0) rfl) hr hgd tk (ma_cons (g_fld "Receipt" (gv 0) A.cls_Receipt A.na_Receipt_costs) (ma_cons (gv 2) (ma_cons (g_call c_groups_without hr hgd tk (ma_cons (g_fld "Receipt" (gv 0) A.cls_Receipt A.na_Receipt_bounds) (ma_cons (gv 1) ma_nil)) (alen_cons (alen_cons alen_nil))) ma_nil))) mk_nil)) mss_nil)))
theorem sc_Receipt_limited : FnScope ["self", "group", "limit", "other"] ["self", "group", "limit"] (defScope (meth 49 9)) := ⟨rfl, rfl, rfl, by decide +kernel, rfl, by decide +kernel, by decide +kernel⟩
theorem ok_Receipt_limited (A : Fc K mg) (F : FnQ K "limited" "Receipt.limited" (meth 49 9) [] a fd) (m_Receipt : Maker Zg P w K mg base 6 "Receipt" ["self", "prices", "deals", "groups"] [.tup [], .tup []] F_Receipt___init__ sh_Receipt) (c_is_between : Cal Zg P w K mg base 2 "is_between" ["thing", "low", "high"] F_is_between) : FnG Zg P w K mg base 8 a fd ["self", "group", "limit"] (spF K 3 F_Receipt_limited) :=
  have S := sc_Receipt_limited
  fnG_of F S (by decide) fun cdv A' outer s H E hr hgd =>
    have tk : Takes (cxOf (L2.CX P w) P w K mg base ["self", "group", "limit", "other"] "Receipt.limited" (defScope (meth 49 9)) a cdv A' outer s H E) (WE E) := takes_of rfl rfl rfl rfl
    have ps : PassesOwn (model P w) (cxOf (L2.CX P w) P w K mg base ["self", "group", "limit", "other"] "Receipt.limited" (defScope (meth 49 9)) a cdv A' outer s H E).A (cxOf (L2.CX P w) P w K mg base ["self", "group", "limit", "other"] "Receipt.limited" (defScope (meth 49 9)) a cdv A' outer s H E).env (cxOf (L2.CX P w) P w K mg base ["self", "group", "limit", "other"] "Receipt.limited" (defScope (meth 49 9)) a cdv A' outer s H E).xe := passes_of rfl
    (mss_cons (ms_if (mt_not (mt_val (g_call c_is_between hr hgd tk (ma_cons (gv 1) (ma_cons m_int (ma_cons (m_op p_sub (ME.mb (g_len A.len (mab_cons (ME.mb (g_fld "Receipt" (gv 0) A.cls_Receipt A.na_Receipt_bounds)) mab_nil))) (ME.mb m_int)) ma_nil))) (alen_cons (alen_cons (alen_cons alen_nil)))))) (mss_cons ms_never mss_nil) mss_nil) (mss_cons (ms_if (mt_not (mt_val (g_call c_is_between hr hgd tk (ma_cons (gv 2) (ma_cons m_int (ma_cons (gI A.MOST_LIMIT) ma_nil))) (alen_cons (alen_cons (alen_cons alen_nil)))))) (mss_cons ms_never mss_nil) mss_nil) (mss_cons (g_set 3 S.nd (m_tup (ma_cons (gv 2) (ma_cons (g_ix (ME.mb (g_ix (ME.mb (g_fld "Receipt" (gv 0) A.cls_Receipt A.na_Receipt_bounds)) (gv 1))) m_int) ma_nil)))) (mss_cons (ms_ret (g_make 3 [.pos 1, .pos 2, .pos 3] m_Receipt (List.mem_of_getElem? (i := 0) rfl) hr hgd tk (ma_cons (g_fld "Receipt" (gv 0) A.cls_Receipt A.na_Receipt_costs) (ma_cons (g_fld "Receipt" (gv 0) A.cls_Receipt A.na_Receipt_offers) (ma_cons (m_op p_add (ME.mb (m_op p_add (ME.mb (m_slice (ME.mb (g_fld "Receipt" (gv 0) A.cls_Receipt A.na_Receipt_bounds)) mo_none (mo_some (gv 1)))) (ME.mb (m_tup (ma_cons (gv 3) ma_nil))))) (ME.mb (m_slice (ME.mb (g_fld "Receipt" (gv 0) A.cls_Receipt A.na_Receipt_bounds)) (mo_some (m_op p_add (ME.mb (gv 1)) (ME.mb m_int))) mo_none))) ma_nil))) mk_nil)) mss_nil))))
theorem sc__law_family : FnScope ["_law_pen_here", "_law_receipt_here", "_law_found", "_law_number"] ["_law_pen_here", "_law_receipt_here"] (defScope (top 67)) := ⟨rfl, rfl, rfl, by decide +kernel, rfl, by decide +kernel, by decide +kernel⟩
theorem ok__law_family (A : Fc K mg) (F : FnQ K "_law_family" "_law_family" (top 67) [] a fd) (c_Receipt___add__ : CalA Zg P w K mg base 8 (He.ma K (He.ga K "Receipt") "__add__") ["self", "deal"] F_Receipt___add__) (m_Receipt : Maker Zg P w K mg base 6 "Receipt" ["self", "prices", "deals", "groups"] [.tup [], .tup []] F_Receipt___init__ sh_Receipt) (c_Receipt___len__ : CalA Zg P w K mg base 1 (He.ma K (He.ga K "Receipt") "__len__") ["self"] F_Receipt___len__) (c_Receipt___sub__ : CalA Zg P w K mg base 8 (He.ma K (He.ga K "Receipt") "__sub__") ["self", "number"] F_Receipt___sub__) (c_Receipt_deals : CalA Zg P w K mg base 1 (prA K "Receipt" "deals") ["self"] F_Receipt_deals) (c_Receipt_groups : CalA Zg P w K mg base 1 (prA K "Receipt" "groups") ["self"] F_Receipt_groups) (c_Receipt_limited : CalA Zg P w K mg base 8 (He.ma K (He.ga K "Receipt") "limited") ["self", "group", "limit"] F_Receipt_limited) (c_Receipt_prices : CalA Zg P w K mg base 1 (prA K "Receipt" "prices") ["self"] F_Receipt_prices) (c__law_deal : Cal Zg P w K mg base 2 "_law_deal" ["_law_pen_here", "_law_prices", "_law_most"] F__law_deal) (c__law_draw : Cal Zg P w K mg base 1 "_law_draw" ["_law_pen_here", "_law_count"] F__law_draw) : FnG Zg P w K mg base 10 a fd ["_law_pen_here", "_law_receipt_here"] (spF K 2 F__law_family) :=
  have S := sc__law_family
  fnG_of F S (by decide) fun cdv A' outer s H E hr hgd =>
    have tk : Takes (cxOf (L2.CX P w) P w K mg base ["_law_pen_here", "_law_receipt_here", "_law_found", "_law_number"] "_law_family" (defScope (top 67)) a cdv A' outer s H E) (WE E) := takes_of rfl rfl rfl rfl
    have ps : PassesOwn (model P w) (cxOf (L2.CX P w) P w K mg base ["_law_pen_here", "_law_receipt_here", "_law_found", "_law_number"] "_law_family" (defScope (top 67)) a cdv A' outer s H E).A (cxOf (L2.CX P w) P w K mg base ["_law_pen_here", "_law_receipt_here", "_law_found", "_law_number"] "_law_family" (defScope (top 67)) a cdv A' outer s H E).env (cxOf (L2.CX P w) P w K mg base ["_law_pen_here", "_law_receipt_here", "_law_found", "_law_number"] "_law_family" (defScope (top 67)) a cdv A' outer s H E).xe := passes_of rfl
    (mss_cons (g_setO 2 S.nd (ml_lst (ma_cons (gv 1) (ma_cons (g_make 2 [.pos 1, .pos 2, .dfl 1] m_Receipt (List.mem_of_getElem? (i := 1) rfl) hr hgd tk (ma_cons (g_prop (gv 1) A.cls_Receipt A.pr_Receipt_prices c_Receipt_prices hr hgd) (ma_cons (m_rev (g_prop (gv 1) A.cls_Receipt A.pr_Receipt_deals c_Receipt_deals hr hgd)) ma_nil)) mk_nil) (ma_cons (g_make 2 [.pos 1, .pos 2, .dfl 1] m_Receipt (List.mem_of_getElem? (i := 1) rfl) hr hgd tk (ma_cons (g_prop (gv 1) A.cls_Receipt A.pr_Receipt_prices c_Receipt_prices hr hgd) (ma_cons (g_prop (gv 1) A.cls_Receipt A.pr_Receipt_deals c_Receipt_deals hr hgd) ma_nil)) mk_nil) ma_nil))))) (mss_cons (ms_if (gt_cmp (o_lt hr) (ME.mb (g_lenO (c0 := "Receipt") (gv 1) A.me_Receipt___len__ c_Receipt___len__ hr hgd A.len)) (ME.mb m_int)) (mss_cons (g_setO 2 S.nd (ml_add (go 2) (ME.mb (ML.me (ml_lst (ma_cons (g_binO tf_tup (rd_tup (nm := "__add__") rfl A.me_Receipt___add__ A.bin_Receipt_Add) (gv 1) (m_tup ma_nil) c_Receipt___add__ hr hgd) (ma_cons (g_binO tf_tup (rd_tup (nm := "__add__") rfl A.me_Receipt___add__ A.bin_Receipt_Add) (gv 1) (g_call c__law_deal hr hgd tk (ma_cons (gv 0) (ma_cons (g_prop (gv 1) A.cls_Receipt A.pr_Receipt_prices c_Receipt_prices hr hgd) (ma_cons m_int ma_nil))) (alen_cons (alen_cons (alen_cons alen_nil)))) c_Receipt___add__ hr hgd) ma_nil))))))) mss_nil) mss_nil) (mss_cons (ms_for ps rfl (mi_range1 rfl A.range (ma_cons (g_lenO (c0 := "Receipt") (gv 1) A.me_Receipt___len__ c_Receipt___len__ hr hgd A.len) ma_nil)) (g_nm 3 S.nd) (mss_cons (g_app 2 (g_binO tf_int (rd_int (nm := "__sub__") rfl A.me_Receipt___sub__ A.bin_Receipt_Sub) (gv 1) (gv 3) c_Receipt___sub__ hr hgd)) mss_nil)) (mss_cons (ms_for ps rfl (mi_range1 rfl A.range (ma_cons (g_len A.len (mab_cons (ME.mb (g_prop (gv 1) A.cls_Receipt A.pr_Receipt_groups c_Receipt_groups hr hgd)) mab_nil)) ma_nil)) (g_nm 3 S.nd) (mss_cons (g_app 2 (g_meth (gv 1) A.cls_Receipt A.me_Receipt_limited c_Receipt_limited hr hgd tk (ma_cons (gv 3) (ma_cons (g_call c__law_draw hr hgd tk (ma_cons (gv 0) (ma_cons m_int ma_nil)) (alen_cons (alen_cons alen_nil))) ma_nil)) (alen_cons (alen_cons alen_nil)))) mss_nil)) (mss_cons (ms_retO (i := 2) rfl (by first | exact .inl rfl | exact .inr (.inl rfl))) mss_nil)))))
theorem sc_Receipt___eq__ : FnScope ["self", "other"] ["self", "other"] (defScope (meth 49 17)) := ⟨rfl, rfl, rfl, by decide +kernel, rfl, by decide +kernel, by decide +kernel⟩
theorem ok_Receipt___eq__ (A : Fc K mg) (F : FnQ K "__eq__" "Receipt.__eq__" (meth 49 17) [] a fd)  : FnG Zg P w K mg base 1 a fd ["self", "other"] (spF K 2 F_Receipt___eq__) :=
  have S := sc_Receipt___eq__
  fnG_of F S (by decide) fun cdv A' outer s H E hr hgd =>
    have tk : Takes (cxOf (L2.CX P w) P w K mg base ["self", "other"] "Receipt.__eq__" (defScope (meth 49 17)) a cdv A' outer s H E) (WE E) := takes_of rfl rfl rfl rfl
    have ps : PassesOwn (model P w) (cxOf (L2.CX P w) P w K mg base ["self", "other"] "Receipt.__eq__" (defScope (meth 49 17)) a cdv A' outer s H E).A (cxOf (L2.CX P w) P w K mg base ["self", "other"] "Receipt.__eq__" (defScope (meth 49 17)) a cdv A' outer s H E).env (cxOf (L2.CX P w) P w K mg base ["self", "other"] "Receipt.__eq__" (defScope (meth 49 17)) a cdv A' outer s H E).xe := passes_of rfl
    (mss_cons (ms_if (mt_not (mt_val (g_isO (gv 1) A.iso_Receipt A.isinstance A.glo_Receipt))) (mss_cons (ms_ret m_bl) mss_nil) mss_nil) (mss_cons (ms_ret (m_and (g_cmp (o_eq hr) (ME.mb (g_fld "Receipt" (gv 0) A.cls_Receipt A.na_Receipt_costs)) (ME.mb (g_fld "Receipt" (gv 1) A.cls_Receipt A.na_Receipt_costs))) (m_and (g_cmp (o_eq hr) (ME.mb (g_fld "Receipt" (gv 0) A.cls_Receipt A.na_Receipt_offers)) (ME.mb (g_fld "Receipt" (gv 1) A.cls_Receipt A.na_Receipt_offers))) (m_one (g_cmp (o_eq hr) (ME.mb (g_fld "Receipt" (gv 0) A.cls_Receipt A.na_Receipt_bounds)) (ME.mb (g_fld "Receipt" (gv 1) A.cls_Receipt A.na_Receipt_bounds))))))) mss_nil))
theorem sc_law : FnScope ["_law_script", "_law_cell", "_law_pen_here", "_law_lap", "_law_prices", "_law_deals", "_law_groups_here", "_law_text_here", "_law_due_here", "_law_turn", "_law_receipt_here", "_law_some", "_law_one", "_law_other"] ["_law_script"] (defScope (top 68)) := ⟨rfl, rfl, rfl, by decide +kernel, rfl, by decide +kernel, by decide +kernel⟩
theorem ok_law (A : Fc K mg) (F : FnQ K "law" "law" (top 68) [] a fd) (c_Receipt___eq__ : CalA True P w K mg base 1 (He.ma K (He.ga K "Receipt") "__eq__") ["self", "other"] F_Receipt___eq__) (m_Receipt : Maker True P w K mg base 6 "Receipt" ["self", "prices", "deals", "groups"] [.tup [], .tup []] F_Receipt___init__ sh_Receipt) (c_Receipt_read : CalA True P w K mg base 8 (cmA K "Receipt" "read") ["cls", "text"] F_Receipt_read) (c_Receipt_text : CalA True P w K mg base 3 (He.ma K (He.ga K "Receipt") "text") ["self"] F_Receipt_text) (c__law_cell_at : Cal True P w K mg base 1 "_law_cell_at" ["_law_script", "_law_k"] F__law_cell_at) (c__law_due : Cal True P w K mg base 2 "_law_due" ["_law_prices", "_law_deals", "_law_groups_here"] F__law_due) (c__law_family : Cal True P w K mg base 10 "_law_family" ["_law_pen_here", "_law_receipt_here"] F__law_family) (c__law_pen : Cal True P w K mg base 1 "_law_pen" ["_law_cell"] F__law_pen) (c__law_receipt : Cal True P w K mg base 4 "_law_receipt" ["_law_pen_here", "_law_lines", "_law_deals"] F__law_receipt) (c__law_same : Cal True P w K mg base 1 "_law_same" ["_law_found", "_law_due_here"] F__law_same) (c__law_seen : Cal True P w K mg base 4 "_law_seen" ["_law_receipt_here"] F__law_seen) (c__law_text : Cal True P w K mg base 1 "_law_text" ["_law_prices", "_law_deals", "_law_groups_here"] F__law_text) : FnG True P w K mg base 11 a fd ["_law_script"] (spF K 1 F_law) :=
  have S := sc_law
  fnG_of F S (by decide) fun cdv A' outer s H E hr hgd =>
    have tk : Takes (cxOf (L2.CX P w) P w K mg base ["_law_script", "_law_cell", "_law_pen_here", "_law_lap", "_law_prices", "_law_deals", "_law_groups_here", "_law_text_here", "_law_due_here", "_law_turn", "_law_receipt_here", "_law_some", "_law_one", "_law_other"] "law" (defScope (top 68)) a cdv A' outer s H E) (WE E) := takes_of rfl rfl rfl rfl
    have ps : PassesOwn (model P w) (cxOf (L2.CX P w) P w K mg base ["_law_script", "_law_cell", "_law_pen_here", "_law_lap", "_law_prices", "_law_deals", "_law_groups_here", "_law_text_here", "_law_due_here", "_law_turn", "_law_receipt_here", "_law_some", "_law_one", "_law_other"] "law" (defScope (top 68)) a cdv A' outer s H E).A (cxOf (L2.CX P w) P w K mg base ["_law_script", "_law_cell", "_law_pen_here", "_law_lap", "_law_prices", "_law_deals", "_law_groups_here", "_law_text_here", "_law_due_here", "_law_turn", "_law_receipt_here", "_law_some", "_law_one", "_law_other"] "law" (defScope (top 68)) a cdv A' outer s H E).env (cxOf (L2.CX P w) P w K mg base ["_law_script", "_law_cell", "_law_pen_here", "_law_lap", "_law_prices", "_law_deals", "_law_groups_here", "_law_text_here", "_law_due_here", "_law_turn", "_law_receipt_here", "_law_some", "_law_one", "_law_other"] "law" (defScope (top 68)) a cdv A' outer s H E).xe := passes_of rfl
    (mss_cons (ms_for ps rfl (mi_seq (m_op p_add (ME.mb (ML.me (ml_lst (ma_cons (g_call c__law_cell_at hr hgd tk (ma_cons (gv 0) (ma_cons m_int ma_nil)) (alen_cons (alen_cons alen_nil))) ma_nil)))) (ME.mb (m_slice (ME.mb (gv 0)) (mo_some m_int) (mo_some m_int))))) (g_nm 1 S.nd) (mss_cons (g_set 2 S.nd (g_call c__law_pen hr hgd tk (ma_cons (gv 1) ma_nil) (alen_cons alen_nil))) (mss_cons (ms_for ps rfl (mi_range1 rfl A.range (ma_cons m_int ma_nil)) (g_nm 3 S.nd) (mss_cons (g_asg (g_call c__law_receipt hr hgd tk (ma_cons (gv 2) (ma_cons m_int (ma_cons m_int ma_nil))) (alen_cons (alen_cons (alen_cons alen_nil)))) (mg_tup rfl (mgs_cons (g_nm 4 S.nd) (mgs_cons (g_nm 5 S.nd) (mgs_cons (g_nm 6 S.nd) mgs_nil))))) (mss_cons (ms_par (mns_cons (ME.mn (g_call c__law_text hr hgd tk (ma_cons (gv 4) (ma_cons (gv 5) (ma_cons (gv 6) ma_nil))) (alen_cons (alen_cons (alen_cons alen_nil))))) (mns_cons (ME.mn (g_call c__law_due hr hgd tk (ma_cons (gv 4) (ma_cons (gv 5) (ma_cons (gv 6) ma_nil))) (alen_cons (alen_cons (alen_cons alen_nil))))) mns_nil)) rfl S.nd (i := 7) (j := 8) rfl rfl (by decide) rfl rfl (by rfl)) (mss_cons (ms_for ps rfl (mi_range1 rfl A.range (ma_cons m_int ma_nil)) (g_nm 9 S.nd) (mss_cons (g_set 10 S.nd (g_cmeth A.crd_Receipt A.cm_Receipt_read c_Receipt_read hr hgd tk A.glo_Receipt (ma_cons (gv 7) ma_nil) (alen_cons alen_nil))) (mss_cons (ms_if (mt_not (mt_val (g_call c__law_same hr hgd tk (ma_cons (ML.me (ml_lst (ma_cons (g_meth0 (gv 10) A.cls_Receipt A.me_Receipt_text c_Receipt_text hr hgd tk) (ma_cons (g_call c__law_seen hr hgd tk (ma_cons (gv 10) ma_nil) (alen_cons alen_nil)) ma_nil)))) (ma_cons (ML.me (ml_lst (ma_cons (gv 7) (ma_cons (gv 8) ma_nil)))) ma_nil)) (alen_cons (alen_cons alen_nil))))) (mss_cons (ms_ret m_bl) mss_nil) mss_nil) mss_nil))) (mss_cons (g_set 11 S.nd (g_call c__law_family hr hgd tk (ma_cons (gv 2) (ma_cons (gv 10) ma_nil)) (alen_cons (alen_cons alen_nil)))) (mss_cons (ms_for ps rfl (mi_seq (gv 11)) (g_nm 12 S.nd) (mss_cons (ms_if (MW.mt (mw_or (mt_not (gt_eqO (g_cmeth A.crd_Receipt A.cm_Receipt_read c_Receipt_read hr hgd tk A.glo_Receipt (ma_cons (g_meth0 (gv 12) A.cls_Receipt A.me_Receipt_text c_Receipt_text hr hgd tk) ma_nil) (alen_cons alen_nil)) (gv 12) A.me_Receipt___eq__ c_Receipt___eq__ hr hgd)) (mw_or1 (mt_not (mt_val (g_call c__law_same hr hgd tk (ma_cons (g_meth0 (g_cmeth A.crd_Receipt A.cm_Receipt_read c_Receipt_read hr hgd tk A.glo_Receipt (ma_cons (g_meth0 (gv 12) A.cls_Receipt A.me_Receipt_text c_Receipt_text hr hgd tk) ma_nil) (alen_cons alen_nil)) A.cls_Receipt A.me_Receipt_text c_Receipt_text hr hgd tk) (ma_cons (g_meth0 (gv 12) A.cls_Receipt A.me_Receipt_text c_Receipt_text hr hgd tk) ma_nil)) (alen_cons (alen_cons alen_nil)))))))) (mss_cons (ms_ret m_bl) mss_nil) mss_nil) (mss_cons (ms_if (gt_cmp (o_ne hr) (ME.mb (ML.me (ml_lc (own := [("_law_other", 13)]) bok_name rfl S.nd (mic_seq (ME.mb (gv 11))) (blkOk_by (by rfl)) (fun _ _ _ _ _ => (g_nm 13 S.nd)) (fun _ _ _ _ _ => (mts_one (gt_cmp (o_ne hr) (ME.mb (g_eqO (gv 12) (gv 13) A.me_Receipt___eq__ c_Receipt___eq__ hr hgd)) (ME.mb (g_cmp (o_eq hr) (ME.mb (g_meth0 (gv 12) A.cls_Receipt A.me_Receipt_text c_Receipt_text hr hgd takes_F)) (ME.mb (g_meth0 (gv 13) A.cls_Receipt A.me_Receipt_text c_Receipt_text hr hgd takes_F))))))) (fun _ _ _ _ _ => m_int)))) (ME.mb (ML.me (ml_lst ma_nil)))) (mss_cons (ms_ret m_bl) mss_nil) mss_nil) mss_nil))) mss_nil)))))) mss_nil))) (mss_cons (ms_ret (g_call c__law_same hr hgd tk (ma_cons (g_meth0 (g_make 1 [.pos 1, .dfl 0, .dfl 1] m_Receipt (List.mem_of_getElem? (i := 2) rfl) hr hgd tk (ma_cons (m_tup (ma_cons m_int ma_nil)) ma_nil) mk_nil) A.cls_Receipt A.me_Receipt_text c_Receipt_text hr hgd tk) (ma_cons m_str ma_nil)) (alen_cons (alen_cons alen_nil)))) mss_nil))
end
end Q09
namespace Q09
open PySem PySem.Spec PyProof.Rows L2 PL
theorem facts {P : Program} {w : World} {K : PySem.W.Frag} {h : Heap} {mg : Str → Option Value} {f : Addr} (X : K.In h) (G : h.Ns mainGlobals mg) (hfa : mg ("law" : Str) = some (.ref f)) (c : SaysP fa fn K) :
    ∃ fd : FuncData, (∀ (s : Shared) (v : Value), BindsTo s fd ⟨[v], []⟩ [("_law_script", v)]) ∧ ∀ base : Heap, K.In base → base.Ns mainGlobals mg → FnG True P w K mg base 11 f fd ["_law_script"] (spF K 1 F_law) := by
  obtain ⟨d0, D0⟩ := c.def_ 0 (d := d__law_cell_at) rfl
  have g0 := He.glo_ok X G (c.fact 50 (f := k_50) rfl)
  obtain ⟨d1, D1⟩ := c.def_ 1 (d := d__law_pen) rfl
  have g1 := He.glo_ok X G (c.fact 51 (f := k_51) rfl)
  obtain ⟨d2, D2⟩ := c.def_ 2 (d := d__law_draw) rfl
  have g2 := He.glo_ok X G (c.fact 52 (f := k_52) rfl)
  obtain ⟨d3, D3⟩ := c.def_ 3 (d := d__law_pick) rfl
  have g3 := He.glo_ok X G (c.fact 53 (f := k_53) rfl)
  obtain ⟨d4, D4⟩ := c.def_ 4 (d := d__law_deal) rfl
  have g4 := He.glo_ok X G (c.fact 54 (f := k_54) rfl)
  obtain ⟨d5, D5⟩ := c.def_ 5 (d := d__law_mixed) rfl
  have g5 := He.glo_ok X G (c.fact 55 (f := k_55) rfl)
  obtain ⟨d6, D6⟩ := c.def_ 6 (d := d__law_groups) rfl
  have g6 := He.glo_ok X G (c.fact 56 (f := k_56) rfl)
  obtain ⟨d7, D7⟩ := c.def_ 7 (d := d__law_receipt) rfl
  have g7 := He.glo_ok X G (c.fact 57 (f := k_57) rfl)
  obtain ⟨d8, D8⟩ := c.def_ 8 (d := d__law_text) rfl
  have g8 := He.glo_ok X G (c.fact 58 (f := k_58) rfl)
  obtain ⟨d9, D9⟩ := c.def_ 9 (d := d__law_due) rfl
  have g9 := He.glo_ok X G (c.fact 59 (f := k_59) rfl)
  obtain ⟨d10, D10⟩ := c.def_ 10 (d := d_number_in) rfl
  have g10 := He.glo_ok X G (c.fact 60 (f := k_60) rfl)
  obtain ⟨d11, D11⟩ := c.def_ 11 (d := d_numbers_in) rfl
  have g11 := He.glo_ok X G (c.fact 61 (f := k_61) rfl)
  obtain ⟨d12, D12⟩ := c.def_ 12 (d := d_deal_in) rfl
  have g12 := He.glo_ok X G (c.fact 62 (f := k_62) rfl)
  obtain ⟨d13, D13⟩ := c.def_ 13 (d := d_group_in) rfl
  have g13 := He.glo_ok X G (c.fact 63 (f := k_63) rfl)
  obtain ⟨d14, D14⟩ := c.def_ 14 (d := d_numbers_text) rfl
  have g14 := He.glo_ok X G (c.fact 64 (f := k_64) rfl)
  obtain ⟨d15, D15⟩ := c.def_ 15 (d := d_receipt_lines) rfl
  have g15 := He.glo_ok X G (c.fact 65 (f := k_65) rfl)
  obtain ⟨d16, D16⟩ := c.def_ 16 (d := d_parts_in) rfl
  have g16 := He.glo_ok X G (c.fact 66 (f := k_66) rfl)
  obtain ⟨d17, D17⟩ := c.def_ 17 (d := d_is_integer) rfl
  have g17 := He.glo_ok X G (c.fact 67 (f := k_67) rfl)
  obtain ⟨d18, D18⟩ := c.def_ 18 (d := d_is_between) rfl
  have g18 := He.glo_ok X G (c.fact 68 (f := k_68) rfl)
  obtain ⟨d19, D19⟩ := c.def_ 19 (d := d_are_prices) rfl
  have g19 := He.glo_ok X G (c.fact 69 (f := k_69) rfl)
  obtain ⟨d20, D20⟩ := c.def_ 20 (d := d_is_pair) rfl
  have g20 := He.glo_ok X G (c.fact 70 (f := k_70) rfl)
  obtain ⟨d21, D21⟩ := c.def_ 21 (d := d_is_offer) rfl
  have g21 := He.glo_ok X G (c.fact 71 (f := k_71) rfl)
  obtain ⟨d22, D22⟩ := c.def_ 22 (d := d_rises) rfl
  have g22 := He.glo_ok X G (c.fact 72 (f := k_72) rfl)
  obtain ⟨d23, D23⟩ := c.def_ 23 (d := d_is_deal) rfl
  have g23 := He.glo_ok X G (c.fact 73 (f := k_73) rfl)
  obtain ⟨d24, D24⟩ := c.def_ 24 (d := d_are_deals) rfl
  have g24 := He.glo_ok X G (c.fact 74 (f := k_74) rfl)
  obtain ⟨d25, D25⟩ := c.def_ 25 (d := d_is_set) rfl
  have g25 := He.glo_ok X G (c.fact 75 (f := k_75) rfl)
  obtain ⟨d26, D26⟩ := c.def_ 26 (d := d_is_group) rfl
  have g26 := He.glo_ok X G (c.fact 76 (f := k_76) rfl)
  obtain ⟨d27, D27⟩ := c.def_ 27 (d := d_are_groups) rfl
  have g27 := He.glo_ok X G (c.fact 77 (f := k_77) rfl)
  obtain ⟨d28, D28⟩ := c.def_ 28 (d := d_are_apart) rfl
  have g28 := He.glo_ok X G (c.fact 78 (f := k_78) rfl)
  obtain ⟨d29, D29⟩ := c.def_ 29 (d := d_is_inside) rfl
  have g29 := He.glo_ok X G (c.fact 79 (f := k_79) rfl)
  obtain ⟨d30, D30⟩ := c.def_ 30 (d := d_do_cross) rfl
  have g30 := He.glo_ok X G (c.fact 80 (f := k_80) rfl)
  obtain ⟨d31, D31⟩ := c.def_ 31 (d := d_first_crossed) rfl
  have g31 := He.glo_ok X G (c.fact 81 (f := k_81) rfl)
  obtain ⟨d32, D32⟩ := c.def_ 32 (d := d_Receipt___init__) rfl
  obtain ⟨d33, D33⟩ := c.def_ 33 (d := d_Receipt_read) rfl
  obtain ⟨d34, D34⟩ := c.def_ 34 (d := d_Receipt_total) rfl
  obtain ⟨d35, D35⟩ := c.def_ 35 (d := d_Receipt_groups) rfl
  obtain ⟨d36, D36⟩ := c.def_ 36 (d := d_Receipt_deals) rfl
  obtain ⟨d37, D37⟩ := c.def_ 37 (d := d_Receipt_prices) rfl
  obtain ⟨d38, D38⟩ := c.def_ 38 (d := d_Receipt_text) rfl
  obtain ⟨d39, D39⟩ := c.def_ 39 (d := d_Receipt___repr__) rfl
  obtain ⟨d40, D40⟩ := c.def_ 40 (d := d_Receipt___len__) rfl
  obtain ⟨d41, D41⟩ := c.def_ 41 (d := d__law_seen) rfl
  have g41 := He.glo_ok X G (c.fact 84 (f := k_84) rfl)
  obtain ⟨d42, D42⟩ := c.def_ 42 (d := d__law_same) rfl
  have g42 := He.glo_ok X G (c.fact 85 (f := k_85) rfl)
  obtain ⟨d43, D43⟩ := c.def_ 43 (d := d_Receipt___add__) rfl
  obtain ⟨d44, D44⟩ := c.def_ 44 (d := d_groups_without) rfl
  have g44 := He.glo_ok X G (c.fact 86 (f := k_86) rfl)
  obtain ⟨d45, D45⟩ := c.def_ 45 (d := d_Receipt___sub__) rfl
  obtain ⟨d46, D46⟩ := c.def_ 46 (d := d_Receipt_limited) rfl
  obtain ⟨d47, D47⟩ := c.def_ 47 (d := d__law_family) rfl
  have g47 := He.glo_ok X G (c.fact 87 (f := k_87) rfl)
  obtain ⟨d48, D48⟩ := c.def_ 48 (d := d_Receipt___eq__) rfl
  obtain ⟨d49, D49⟩ := c.def_ 49 (d := d_law) rfl
  have g49 := He.glo_ok X G (c.fact 88 (f := k_88) rfl)
  have A : Fc K mg := ⟨He.free_ok X G (c.fact 0 (f := k_0) rfl), He.free_ok X G (c.fact 1 (f := k_1) rfl), He.free_ok X G (c.fact 2 (f := k_2) rfl), He.free_ok X G (c.fact 3 (f := k_3) rfl), He.free_ok X G (c.fact 4 (f := k_4) rfl), He.free_ok X G (c.fact 5 (f := k_5) rfl), He.free_ok X G (c.fact 6 (f := k_6) rfl), He.free_ok X G (c.fact 7 (f := k_7) rfl), He.free_ok X G (c.fact 8 (f := k_8) rfl), He.free_ok X G (c.fact 9 (f := k_9) rfl), He.free_ok X G (c.fact 10 (f := k_10) rfl), He.str_ok X G (c.fact 11 (f := k_11) rfl), He.free_ok X G (c.fact 12 (f := k_12) rfl), He.str_ok X G (c.fact 13 (f := k_13) rfl), He.free_ok X G (c.fact 14 (f := k_14) rfl), He.str_ok X G (c.fact 15 (f := k_15) rfl), He.str_ok X G (c.fact 16 (f := k_16) rfl), He.str_ok X G (c.fact 17 (f := k_17) rfl), He.str_ok X G (c.fact 18 (f := k_18) rfl), He.int_ok X G (c.fact 19 (f := k_19) rfl), He.int_ok X G (c.fact 20 (f := k_20) rfl), He.free_ok X G (c.fact 21 (f := k_21) rfl), He.int_ok X G (c.fact 22 (f := k_22) rfl), He.free_ok X G (c.fact 23 (f := k_23) rfl), He.int_ok X G (c.fact 24 (f := k_24) rfl), He.int_ok X G (c.fact 25 (f := k_25) rfl), He.free_ok X G (c.fact 26 (f := k_26) rfl), He.cls_ok (c.fact 27 (f := k_27) rfl), He.noat_ok (c.fact 28 (f := k_28) rfl), He.noat_ok (c.fact 29 (f := k_29) rfl), He.noat_ok (c.fact 30 (f := k_30) rfl), He.glo_ok X G (c.fact 31 (f := k_31) rfl), He.mkr_ok (c.fact 32 (f := k_32) rfl), chkCRd_ok (c.fact 33 (f := k_33) rfl), chkCMet_ok (c.fact 34 (f := k_34) rfl), chkProp_ok (c.fact 35 (f := k_35) rfl), chkProp_ok (c.fact 36 (f := k_36) rfl), chkProp_ok (c.fact 37 (f := k_37) rfl), chkProp_ok (c.fact 38 (f := k_38) rfl), He.meth_ok (c.fact 39 (f := k_39) rfl), He.free_ok X G (c.fact 40 (f := k_40) rfl), He.meth_ok (c.fact 41 (f := k_41) rfl), He.meth_ok (c.fact 42 (f := k_42) rfl), chkBin_ok (c.fact 43 (f := k_43) rfl), He.meth_ok (c.fact 44 (f := k_44) rfl), chkBin_ok (c.fact 45 (f := k_45) rfl), He.meth_ok (c.fact 46 (f := k_46) rfl), He.meth_ok (c.fact 47 (f := k_47) rfl), chkIsO_ok (c.fact 48 (f := k_48) rfl), He.meth_ok (c.fact 49 (f := k_49) rfl)⟩
  have e := hfa.symm.trans g49
  cases e
  have b := FunD.bindsA (ps := ["_law_script"]) D49 (fun _ _ _ _ _ _ us hl => match us, hl with | [_], _ => rfl)
  refine ⟨d49, fun s v => b s [v] rfl, fun base _ _ => ?_⟩
  have c__law_cell_at : Cal True P w K mg base 1 "_law_cell_at" ["_law_script", "_law_k"] F__law_cell_at := ⟨_, _, ok__law_cell_at A D0 , g0, D0.kp, D0.bindsN (fun _ _ _ _ _ _ us hl => match us, hl with | [_, _], _ => rfl)⟩
  have c__law_pen : Cal True P w K mg base 1 "_law_pen" ["_law_cell"] F__law_pen := ⟨_, _, ok__law_pen A D1 , g1, D1.kp, D1.bindsN (fun _ _ _ _ _ _ us hl => match us, hl with | [_], _ => rfl)⟩
  have c__law_draw : Cal True P w K mg base 1 "_law_draw" ["_law_pen_here", "_law_count"] F__law_draw := ⟨_, _, ok__law_draw A D2 , g2, D2.kp, D2.bindsN (fun _ _ _ _ _ _ us hl => match us, hl with | [_, _], _ => rfl)⟩
  have c__law_pick : Cal True P w K mg base 2 "_law_pick" ["_law_pen_here", "_law_some"] F__law_pick := ⟨_, _, ok__law_pick A D3 c__law_draw, g3, D3.kp, D3.bindsN (fun _ _ _ _ _ _ us hl => match us, hl with | [_, _], _ => rfl)⟩
  have c__law_deal : Cal True P w K mg base 2 "_law_deal" ["_law_pen_here", "_law_prices", "_law_most"] F__law_deal := ⟨_, _, ok__law_deal A D4 c__law_draw, g4, D4.kp, D4.bindsN (fun _ _ _ _ _ _ us hl => match us, hl with | [_, _, _], _ => rfl)⟩
  have c__law_mixed : Cal True P w K mg base 2 "_law_mixed" ["_law_pen_here", "_law_things"] F__law_mixed := ⟨_, _, ok__law_mixed A D5 c__law_draw, g5, D5.kp, D5.bindsN (fun _ _ _ _ _ _ us hl => match us, hl with | [_, _], _ => rfl)⟩
  have c__law_groups : Cal True P w K mg base 3 "_law_groups" ["_law_pen_here", "_law_many"] F__law_groups := ⟨_, _, ok__law_groups A D6 c__law_draw c__law_mixed, g6, D6.kp, D6.bindsN (fun _ _ _ _ _ _ us hl => match us, hl with | [_, _], _ => rfl)⟩
  have c__law_receipt : Cal True P w K mg base 4 "_law_receipt" ["_law_pen_here", "_law_lines", "_law_deals"] F__law_receipt := ⟨_, _, ok__law_receipt A D7 c__law_deal c__law_draw c__law_groups c__law_pick, g7, D7.kp, D7.bindsN (fun _ _ _ _ _ _ us hl => match us, hl with | [_, _, _], _ => rfl)⟩
  have c__law_text : Cal True P w K mg base 1 "_law_text" ["_law_prices", "_law_deals", "_law_groups_here"] F__law_text := ⟨_, _, ok__law_text A D8 , g8, D8.kp, D8.bindsN (fun _ _ _ _ _ _ us hl => match us, hl with | [_, _, _], _ => rfl)⟩
  have c__law_due : Cal True P w K mg base 2 "_law_due" ["_law_prices", "_law_deals", "_law_groups_here"] F__law_due := ⟨_, _, ok__law_due A D9 c__law_text, g9, D9.kp, D9.bindsN (fun _ _ _ _ _ _ us hl => match us, hl with | [_, _, _], _ => rfl)⟩
  have c_number_in : Cal True P w K mg base 1 "number_in" ["word"] F_number_in := ⟨_, _, ok_number_in A D10 , g10, D10.kp, D10.bindsN (fun _ _ _ _ _ _ us hl => match us, hl with | [_], _ => rfl)⟩
  have c_numbers_in : Cal True P w K mg base 2 "numbers_in" ["part"] F_numbers_in := ⟨_, _, ok_numbers_in A D11 c_number_in, g11, D11.kp, D11.bindsN (fun _ _ _ _ _ _ us hl => match us, hl with | [_], _ => rfl)⟩
  have c_deal_in : Cal True P w K mg base 2 "deal_in" ["line"] F_deal_in := ⟨_, _, ok_deal_in A D12 c_number_in, g12, D12.kp, D12.bindsN (fun _ _ _ _ _ _ us hl => match us, hl with | [_], _ => rfl)⟩
  have c_group_in : Cal True P w K mg base 3 "group_in" ["line"] F_group_in := ⟨_, _, ok_group_in A D13 c_number_in c_numbers_in, g13, D13.kp, D13.bindsN (fun _ _ _ _ _ _ us hl => match us, hl with | [_], _ => rfl)⟩
  have c_numbers_text : Cal True P w K mg base 1 "numbers_text" ["numbers"] F_numbers_text := ⟨_, _, ok_numbers_text A D14 , g14, D14.kp, D14.bindsN (fun _ _ _ _ _ _ us hl => match us, hl with | [_], _ => rfl)⟩
  have c_receipt_lines : Cal True P w K mg base 2 "receipt_lines" ["prices", "deals", "groups"] F_receipt_lines := ⟨_, _, ok_receipt_lines A D15 c_numbers_text, g15, D15.kp, D15.bindsN (fun _ _ _ _ _ _ us hl => match us, hl with | [_, _, _], _ => rfl)⟩
  have c_parts_in : Cal True P w K mg base 4 "parts_in" ["text"] F_parts_in := ⟨_, _, ok_parts_in A D16 c_deal_in c_group_in c_numbers_in c_receipt_lines, g16, D16.kp, D16.bindsN (fun _ _ _ _ _ _ us hl => match us, hl with | [_], _ => rfl)⟩
  have c_is_integer : Cal True P w K mg base 1 "is_integer" ["thing"] F_is_integer := ⟨_, _, ok_is_integer A D17 , g17, D17.kp, D17.bindsN (fun _ _ _ _ _ _ us hl => match us, hl with | [_], _ => rfl)⟩
  have c_is_between : Cal True P w K mg base 2 "is_between" ["thing", "low", "high"] F_is_between := ⟨_, _, ok_is_between A D18 c_is_integer, g18, D18.kp, D18.bindsN (fun _ _ _ _ _ _ us hl => match us, hl with | [_, _, _], _ => rfl)⟩
  have c_are_prices : Cal True P w K mg base 3 "are_prices" ["thing"] F_are_prices := ⟨_, _, ok_are_prices A D19 c_is_between, g19, D19.kp, D19.bindsN (fun _ _ _ _ _ _ us hl => match us, hl with | [_], _ => rfl)⟩
  have c_is_pair : Cal True P w K mg base 2 "is_pair" ["thing"] F_is_pair := ⟨_, _, ok_is_pair A D20 c_is_integer, g20, D20.kp, D20.bindsN (fun _ _ _ _ _ _ us hl => match us, hl with | [_], _ => rfl)⟩
  have c_is_offer : Cal True P w K mg base 3 "is_offer" ["prices", "thing"] F_is_offer := ⟨_, _, ok_is_offer A D21 c_is_pair, g21, D21.kp, D21.bindsN (fun _ _ _ _ _ _ us hl => match us, hl with | [_, _], _ => rfl)⟩
  have c_rises : Cal True P w K mg base 1 "rises" ["row"] F_rises := ⟨_, _, ok_rises A D22 , g22, D22.kp, D22.bindsN (fun _ _ _ _ _ _ us hl => match us, hl with | [_], _ => rfl)⟩
  have c_is_deal : Cal True P w K mg base 4 "is_deal" ["prices", "thing"] F_is_deal := ⟨_, _, ok_is_deal A D23 c_is_offer c_rises, g23, D23.kp, D23.bindsN (fun _ _ _ _ _ _ us hl => match us, hl with | [_, _], _ => rfl)⟩
  have c_are_deals : Cal True P w K mg base 5 "are_deals" ["prices", "thing"] F_are_deals := ⟨_, _, ok_are_deals A D24 c_is_deal, g24, D24.kp, D24.bindsN (fun _ _ _ _ _ _ us hl => match us, hl with | [_, _], _ => rfl)⟩
  have c_is_set : Cal True P w K mg base 3 "is_set" ["thing", "many"] F_is_set := ⟨_, _, ok_is_set A D25 c_is_between c_rises, g25, D25.kp, D25.bindsN (fun _ _ _ _ _ _ us hl => match us, hl with | [_, _], _ => rfl)⟩
  have c_is_group : Cal True P w K mg base 4 "is_group" ["many", "thing"] F_is_group := ⟨_, _, ok_is_group A D26 c_is_between c_is_set, g26, D26.kp, D26.bindsN (fun _ _ _ _ _ _ us hl => match us, hl with | [_, _], _ => rfl)⟩
  have c_are_groups : Cal True P w K mg base 5 "are_groups" ["many", "thing"] F_are_groups := ⟨_, _, ok_are_groups A D27 c_is_group, g27, D27.kp, D27.bindsN (fun _ _ _ _ _ _ us hl => match us, hl with | [_, _], _ => rfl)⟩
  have c_are_apart : Cal True P w K mg base 1 "are_apart" ["one", "other"] F_are_apart := ⟨_, _, ok_are_apart A D28 , g28, D28.kp, D28.bindsN (fun _ _ _ _ _ _ us hl => match us, hl with | [_, _], _ => rfl)⟩
  have c_is_inside : Cal True P w K mg base 1 "is_inside" ["one", "other"] F_is_inside := ⟨_, _, ok_is_inside A D29 , g29, D29.kp, D29.bindsN (fun _ _ _ _ _ _ us hl => match us, hl with | [_, _], _ => rfl)⟩
  have c_do_cross : Cal True P w K mg base 2 "do_cross" ["one", "other"] F_do_cross := ⟨_, _, ok_do_cross A D30 c_are_apart c_is_inside, g30, D30.kp, D30.bindsN (fun _ _ _ _ _ _ us hl => match us, hl with | [_, _], _ => rfl)⟩
  have c_first_crossed : Cal True P w K mg base 3 "first_crossed" ["groups"] F_first_crossed := ⟨_, _, ok_first_crossed A D31 c_do_cross, g31, D31.kp, D31.bindsN (fun _ _ _ _ _ _ us hl => match us, hl with | [_], _ => rfl)⟩
  have m_Receipt : Maker True P w K mg base 6 "Receipt" ["self", "prices", "deals", "groups"] [.tup [], .tup []] F_Receipt___init__ sh_Receipt := by
    refine ⟨_, _, _, ok_Receipt___init__ A D32 c_are_deals c_are_groups c_are_prices c_first_crossed, A.glo_Receipt, A.mk_Receipt, fun N ρ H => (.cons (chkTup0_ok (c.fact 82 (f := k_82) rfl) N ρ H) (.cons (chkTup0_ok (c.fact 83 (f := k_83) rfl) N ρ H) .nil)), fun q hq => ?_⟩
    simp only [sh_Receipt, List.mem_cons, List.not_mem_nil, or_false] at hq
    rcases hq with rfl | rfl | rfl
    · exact PL.FunD.shape D32 3 [] [.pos 1, .pos 2, .pos 3] (List.cons_ne_nil _ _) (fun _ _ _ _ _ _ _ us its ws h1 h2 h3 => match us, its, ws, h1, h2, h3 with | [_, _, _, _], [_, _], [], _, _, _ => ⟨_, rfl, rfl⟩)
    · exact PL.FunD.shape D32 2 [] [.pos 1, .pos 2, .dfl 1] (List.cons_ne_nil _ _) (fun _ _ _ _ _ _ _ us its ws h1 h2 h3 => match us, its, ws, h1, h2, h3 with | [_, _, _], [_, _], [], _, _, _ => ⟨_, rfl, rfl⟩)
    · exact PL.FunD.shape D32 1 [] [.pos 1, .dfl 0, .dfl 1] (List.cons_ne_nil _ _) (fun _ _ _ _ _ _ _ us its ws h1 h2 h3 => match us, its, ws, h1, h2, h3 with | [_, _], [_, _], [], _, _, _ => ⟨_, rfl, rfl⟩)
  have c_Receipt_read : CalA True P w K mg base 8 (cmA K "Receipt" "read") ["cls", "text"] F_Receipt_read := ⟨_, ok_Receipt_read A D33 m_Receipt c_are_deals c_are_groups c_are_prices c_first_crossed c_parts_in, D33.bindsN (fun _ _ _ _ _ _ us hl => match us, hl with | [_, _], _ => rfl)⟩
  have c_Receipt_total : CalA True P w K mg base 1 (prA K "Receipt" "total") ["self"] F_Receipt_total := ⟨_, ok_Receipt_total A D34 , D34.bindsN (fun _ _ _ _ _ _ us hl => match us, hl with | [_], _ => rfl)⟩
  have c_Receipt_groups : CalA True P w K mg base 1 (prA K "Receipt" "groups") ["self"] F_Receipt_groups := ⟨_, ok_Receipt_groups A D35 , D35.bindsN (fun _ _ _ _ _ _ us hl => match us, hl with | [_], _ => rfl)⟩
  have c_Receipt_deals : CalA True P w K mg base 1 (prA K "Receipt" "deals") ["self"] F_Receipt_deals := ⟨_, ok_Receipt_deals A D36 , D36.bindsN (fun _ _ _ _ _ _ us hl => match us, hl with | [_], _ => rfl)⟩
  have c_Receipt_prices : CalA True P w K mg base 1 (prA K "Receipt" "prices") ["self"] F_Receipt_prices := ⟨_, ok_Receipt_prices A D37 , D37.bindsN (fun _ _ _ _ _ _ us hl => match us, hl with | [_], _ => rfl)⟩
  have c_Receipt_text : CalA True P w K mg base 3 (He.ma K (He.ga K "Receipt") "text") ["self"] F_Receipt_text := ⟨_, ok_Receipt_text A D38 c_receipt_lines, D38.bindsN (fun _ _ _ _ _ _ us hl => match us, hl with | [_], _ => rfl)⟩
  have c_Receipt___repr__ : CalA True P w K mg base 1 (He.ma K (He.ga K "Receipt") "__repr__") ["self"] F_Receipt___repr__ := ⟨_, ok_Receipt___repr__ A D39 , D39.bindsN (fun _ _ _ _ _ _ us hl => match us, hl with | [_], _ => rfl)⟩
  have c_Receipt___len__ : CalA True P w K mg base 1 (He.ma K (He.ga K "Receipt") "__len__") ["self"] F_Receipt___len__ := ⟨_, ok_Receipt___len__ A D40 , D40.bindsN (fun _ _ _ _ _ _ us hl => match us, hl with | [_], _ => rfl)⟩
  have c__law_seen : Cal True P w K mg base 4 "_law_seen" ["_law_receipt_here"] F__law_seen := ⟨_, _, ok__law_seen A D41 c_Receipt___len__ c_Receipt___repr__ c_Receipt_deals c_Receipt_groups c_Receipt_prices c_Receipt_text c_Receipt_total, g41, D41.kp, D41.bindsN (fun _ _ _ _ _ _ us hl => match us, hl with | [_], _ => rfl)⟩
  have c__law_same : Cal True P w K mg base 1 "_law_same" ["_law_found", "_law_due_here"] F__law_same := ⟨_, _, ok__law_same A D42 , g42, D42.kp, D42.bindsN (fun _ _ _ _ _ _ us hl => match us, hl with | [_, _], _ => rfl)⟩
  have c_Receipt___add__ : CalA True P w K mg base 8 (He.ma K (He.ga K "Receipt") "__add__") ["self", "deal"] F_Receipt___add__ := ⟨_, ok_Receipt___add__ A D43 m_Receipt c_is_deal, D43.bindsN (fun _ _ _ _ _ _ us hl => match us, hl with | [_, _], _ => rfl)⟩
  have c_groups_without : Cal True P w K mg base 1 "groups_without" ["groups", "number"] F_groups_without := ⟨_, _, ok_groups_without A D44 , g44, D44.kp, D44.bindsN (fun _ _ _ _ _ _ us hl => match us, hl with | [_, _], _ => rfl)⟩
  have c_Receipt___sub__ : CalA True P w K mg base 8 (He.ma K (He.ga K "Receipt") "__sub__") ["self", "number"] F_Receipt___sub__ := ⟨_, ok_Receipt___sub__ A D45 m_Receipt c_groups_without c_is_between, D45.bindsN (fun _ _ _ _ _ _ us hl => match us, hl with | [_, _], _ => rfl)⟩
  have c_Receipt_limited : CalA True P w K mg base 8 (He.ma K (He.ga K "Receipt") "limited") ["self", "group", "limit"] F_Receipt_limited := ⟨_, ok_Receipt_limited A D46 m_Receipt c_is_between, D46.bindsN (fun _ _ _ _ _ _ us hl => match us, hl with | [_, _, _], _ => rfl)⟩
  have c__law_family : Cal True P w K mg base 10 "_law_family" ["_law_pen_here", "_law_receipt_here"] F__law_family := ⟨_, _, ok__law_family A D47 c_Receipt___add__ m_Receipt c_Receipt___len__ c_Receipt___sub__ c_Receipt_deals c_Receipt_groups c_Receipt_limited c_Receipt_prices c__law_deal c__law_draw, g47, D47.kp, D47.bindsN (fun _ _ _ _ _ _ us hl => match us, hl with | [_, _], _ => rfl)⟩
  have c_Receipt___eq__ : CalA True P w K mg base 1 (He.ma K (He.ga K "Receipt") "__eq__") ["self", "other"] F_Receipt___eq__ := ⟨_, ok_Receipt___eq__ A D48 , D48.bindsN (fun _ _ _ _ _ _ us hl => match us, hl with | [_, _], _ => rfl)⟩
  exact ok_law A D49 c_Receipt___eq__ m_Receipt c_Receipt_read c_Receipt_text c__law_cell_at c__law_due c__law_family c__law_pen c__law_receipt c__law_same c__law_seen c__law_text
end Q09
open PySem PySem.W PySem.Calls PyProof.Rows
theorem holds_of (law : ∀ ns : List Int, ns.length ≤ 63 → ∃ st, Q09.F_law [.scr ns] [] = .ok (.bl true) st) : PySem.Challenge.rw_joineddeals_k09_texts_there_and_back.Holds := by
  w_on; o_law
  refine HandSHeadRun.head_any (r := OpenLaw.row PySem.Challenge.rw_joineddeals_k09_texts_there_and_back) (q := view (OpenLaw.row PySem.Challenge.rw_joineddeals_k09_texts_there_and_back).prog [68]) (H := Q09.hk) (ob := Q09.ob) (M := 40000) (loose := Q09.loose) (d := HandSHeadRun.topDef (OpenLaw.row PySem.Challenge.rw_joineddeals_k09_texts_there_and_back).prog 68) (kwd := []) Q09.ob_eq
    (by kernel_rfl) (fun s => by kernel_rfl) Q09.run (by kernel_rfl) (by kernel_rfl) (by kernel_rfl) (by rfl) (by first | assumption | decide +kernel) (by decide +kernel) ⟨rfl, rfl, rfl, rfl, rfl, by decide +kernel⟩ ?hw ?hc
  case hw => w_witness2
  case hc =>
    refine PL.walk_G (l := PySem.Challenge.rw_joineddeals_k09_texts_there_and_back) (n := 63) (k := 11) (Zg := True) (x := "_law_script") (F := Q09.F_law) rfl (by decide) (by kernel_rfl) ⟨rfl, by decide, by decide⟩ ?G law
    intro w mg fa h Y G hmg0
    obtain ⟨K, KX, c⟩ := Y
    have hmg : mg ("law" : PySem.Str) = some (.ref fa) := by
      have e : (HandSHeadRun.topDef (OpenLaw.row PySem.Challenge.rw_joineddeals_k09_texts_there_and_back).prog 68).name = ("law" : PySem.Str) := by kernel_rfl
      rw [← e]
      exact hmg0
    obtain ⟨fd, hb, hF⟩ := Q09.facts (P := (PySem.Challenge.rw_joineddeals_k09_texts_there_and_back).prog) (w := w) KX G hmg c
    exact ⟨K, fd, KX, hb, hF⟩
namespace Q09
open PySem PySem.Spec L2 PL Rc
/-! ### the pen -/
/-- all things of the store hold plain values -/
def Cln (st : Sto) : Prop := ∀ c ∈ st, glC 0 c = true
structure PenAt (st : Sto) (n m : Nat) : Prop where
  pen : ∃ a b c : Int, st[n]? = some (.lst [.int a, .int b, .int c]) ∧ 0 ≤ a ∧ 0 ≤ b ∧ b < 1000000007 ∧ 0 ≤ c ∧ c ≤ m
  cln : Cln st
/-- all but the pen is as it was -/
def Same (n : Nat) (st st' : Sto) : Prop := st'.length = st.length ∧ ∀ k, k ≠ n → st'[k]? = st[k]?
theorem Same.refl {n : Nat} {st : Sto} : Same n st st := ⟨rfl, fun _ _ => rfl⟩
theorem Same.trans {n : Nat} {a b c : Sto} (h : Same n a b) (k : Same n b c) : Same n a c := ⟨k.1.trans h.1, fun i hi => (k.2 i hi).trans (h.2 i hi)⟩
theorem PenAt.mono {st : Sto} {n m k : Nat} (h : PenAt st n m) (hk : m ≤ k) : PenAt st n k := by
  obtain ⟨⟨a, b, c, h1, h2, h3, h4, h5, h6⟩, hc⟩ := h
  exact ⟨⟨a, b, c, h1, h2, h3, h4, h5, by omega⟩, hc⟩
theorem Cln.setC {st : Sto} {n : Nat} {x : Cell} (h : Cln st) (hl : glC 0 x = true) : Cln (st.set n x) := fun c hc => by
  rcases List.mem_or_eq_of_mem_set hc with h1 | h1
  · exact h c h1
  · rw [h1]; exact hl
theorem Cln.pushC {st : Sto} {x : Cell} (h : Cln st) (hl : glC 0 x = true) : Cln (st ++ [x]) := fun c hc => by
  rcases List.mem_append.mp hc with h1 | h1
  · exact h c h1
  · rw [List.mem_singleton.mp h1]; exact hl
theorem Cln.set {st : Sto} {n : Nat} {l : List PV} (h : Cln st) (hl : glBs 0 l = true) : Cln (st.set n (.lst l)) := h.setC hl
theorem Cln.push {st : Sto} {l : List PV} (h : Cln st) (hl : glBs 0 l = true) : Cln (st ++ [.lst l]) := h.pushC hl
theorem at0 {α : Type} (x y z : α) : atI [x, y, z] 0 = some x := rfl
theorem at1 {α : Type} (x y z : α) : atI [x, y, z] 1 = some y := rfl
theorem at2 {α : Type} (x y z : α) : atI [x, y, z] 2 = some z := rfl
theorem atp0 {α : Type} (x y : α) : atI [x, y] 0 = some x := rfl
theorem atp1 {α : Type} (x y : α) : atI [x, y] 1 = some y := rfl
theorem ix0 : ixN 3 0 = some 0 := rfl
theorem ix2 : ixN 3 2 = some 2 := rfl
theorem glBs_ints : ∀ (l : List Int) (k : Nat), glBs k (l.map PV.int) = true
  | [], _ => by unfold List.map glBs; rfl
  | x :: l, k => by
    rw [List.map_cons]
    unfold glBs glB
    rw [glBs_ints l k]
    rfl
theorem gl3 (a b c : Int) : glBs 0 [.int a, .int b, .int c] = true := glBs_ints [a, b, c] 0
theorem draw_spec {st : Sto} {n m : Nat} {k : Int} (h : PenAt st n m) (hm : m ≤ 1000000) (hk : 0 < k) (hk2 : k < 1073741824) : ∃ r st', F__law_draw [.gl n, .int k] st = .ok (.int r) st' ∧ 0 ≤ r ∧ r < k ∧ PenAt st' n (m + 1) ∧ Same n st st' := by
  obtain ⟨⟨a, b, c, h1, h2, h3, h4, h5, h6⟩, hc⟩ := h
  have hn : n < st.length := (List.getElem?_eq_some_iff.mp h1).1
  have sm : ∀ x, Same n st (st.set n x) := fun x => ⟨List.length_set, fun k hk => List.getElem?_set_ne (Ne.symm hk)⟩
  by_cases ha : 0 < a
  · refine ⟨a % k, st.set n (.lst [.int (a / k), .int b, .int c]), ?_, Int.emod_nonneg _ (by omega), Int.emod_lt_of_pos _ hk, ⟨⟨a / k, b, c, by rw [List.getElem?_set_self hn], Int.ediv_nonneg h2 (by omega), h3, h4, h5, by omega⟩, hc.set (gl3 _ _ _)⟩, sm _⟩
    unfold F__law_draw mkFn f__law_draw
    simp [h1, at0, ha, modF_ok hk, divF_ok hk hk2, ix0]
  · have e0 : a = 0 := by omega
    let s1 : Int := (b + 17 * (c + 1)) * (69621 + 2 * (c + 1)) % 2147483647
    have b1 : 0 ≤ s1 := Int.emod_nonneg _ (by decide)
    have b2 : s1 < 2147483647 := Int.emod_lt_of_pos _ (by decide)
    let s2 : Int := (s1 * s1 + 40503 * (c + 1) + 5) % 2147483629
    have b3 : 0 ≤ s2 := Int.emod_nonneg _ (by decide)
    have b4 : s2 < 2147483629 := Int.emod_lt_of_pos _ (by decide)
    refine ⟨s2 * 48271 % 2147483647 / 32 % k, st.set n (.lst [.int a, .int b, .int (c + 1)]), ?_, Int.emod_nonneg _ (by omega), Int.emod_lt_of_pos _ hk, ⟨⟨a, b, c + 1, by rw [List.getElem?_set_self hn], h2, h3, h4, by omega, by omega⟩, hc.set (gl3 _ _ _)⟩, sm _⟩
    unfold F__law_draw mkFn f__law_draw
    have m1 : mulF (.int 17) (.int (c + 1)) = some (.int (17 * (c + 1))) := mulF_l (by decide) (by decide)
    have m2 : mulF (.int 2) (.int (c + 1)) = some (.int (2 * (c + 1))) := mulF_l (by decide) (by decide)
    have m3 : mulF (.int (b + 17 * (c + 1))) (.int (69621 + 2 * (c + 1))) = some (.int ((b + 17 * (c + 1)) * (69621 + 2 * (c + 1)))) := mulF_r (by omega) (by omega)
    have m4 : mulF (.int s1) (.int s1) = some (.int (s1 * s1)) := mulF_r (by omega) (by omega)
    have m5 : mulF (.int 40503) (.int (c + 1)) = some (.int (40503 * (c + 1))) := mulF_l (by decide) (by decide)
    have m6 : mulF (.int s2) (.int 48271) = some (.int (s2 * 48271)) := mulF_r (by decide) (by decide)
    have e1 : modF (.int ((b + 17 * (c + 1)) * (69621 + 2 * (c + 1)))) (.int 2147483647) = some (.int s1) := modF_ok (by decide)
    have e2 : modF (.int (s1 * s1 + 40503 * (c + 1) + 5)) (.int 2147483629) = some (.int s2) := modF_ok (by decide)
    have e3 : modF (.int (s2 * 48271)) (.int 2147483647) = some (.int (s2 * 48271 % 2147483647)) := modF_ok (by decide)
    have e4 : divF (.int (s2 * 48271 % 2147483647)) (.int 32) = some (.int (s2 * 48271 % 2147483647 / 32)) := divF_ok (by decide) (by decide)
    have e5 : modF (.int (s2 * 48271 % 2147483647 / 32)) (.int k) = some (.int (s2 * 48271 % 2147483647 / 32 % k)) := modF_ok hk
    have g1 : (st.set n (.lst [.int a, .int b, .int (c + 1)]))[n]? = some (.lst [.int a, .int b, .int (c + 1)]) := by rw [List.getElem?_set_self hn]
    simp [h1, g1, at0, at1, at2, ha, ix2, m1, m2, m3, m4, m5, m6, e1, e2, e3, e4, e5]
/-- one of a list -/
theorem pick_spec {st : Sto} {n m : Nat} {l : List PV} (h : PenAt st n m) (hm : m ≤ 1000000) (hl : l ≠ []) (hl2 : l.length < 1000000) : ∃ v st', F__law_pick [.gl n, .lst l] st = .ok v st' ∧ v ∈ l ∧ PenAt st' n (m + 1) ∧ Same n st st' := by
  have hp := List.length_pos_iff.mpr hl
  obtain ⟨r, st', e, r0, r1, P, S⟩ := draw_spec (k := (l.length : Int)) h hm (by omega) (by omega)
  have hr : r.toNat < l.length := by omega
  have q := atI_nat hr
  rw [Int.toNat_of_nonneg r0] at q
  refine ⟨l[r.toNat], st', ?_, List.getElem_mem hr, P, S⟩
  unfold F__law_pick mkFn f__law_pick
  simp [e, q]

/-! ### what is checked -/
section
variable {st : Sto}
theorem isint_i (i : Int) : F_is_integer [.int i] st = .ok (.bl true) st := by
  unfold F_is_integer mkFn f_is_integer
  simp [isiF, isiB]
theorem between_i (x lo hi : Int) : F_is_between [.int x, .int lo, .int hi] st = .ok (.bl (decide (lo ≤ x ∧ x ≤ hi))) st := by
  unfold F_is_between mkFn f_is_between
  simp only [List.map_cons, List.map_nil, List.length_cons, List.length_nil, sSeq_e, sRet_e, eAnd_e, eCall_e, aCons_e, aNil_e, eVar_e, eChain_e]
  simp [isint_i]
  by_cases h : lo ≤ x <;> simp [h]
theorem prices_ok {c : List Int} (h : CostsOk c) : F_are_prices [intsV c] st = .ok (.bl true) st := by
  have e := lc_yes (b := bName 1) (t := eCall F_is_between (aCons (eVar 1) (aCons (eC (.int 1)) (aCons (eC (.int 9999)) aNil)))) (e := [.val (intsV c), .non]) (st := st) PV.int (fun x => .bl (decide (1 ≤ x ∧ x ≤ 9999))) c fun x hx => ⟨[.val (intsV c), .val (.int x)], by simp, by simp [between_i]⟩
  have a : (c.all fun x => decide (1 ≤ x ∧ x ≤ 9999)) = true := List.all_eq_true.mpr fun x hx => decide_eq_true (h.2.2 x hx)
  have k1 : (1 : Int) ≤ (c.length : Int) := by have := h.1; omega
  have k5 : (c.length : Int) ≤ 5 := by have := h.2.1; omega
  have af := allF_map (fun x : Int => decide (1 ≤ x ∧ x ≤ 9999)) c
  rw [a] at af
  unfold F_are_prices mkFn f_are_prices l_are_prices_0
  simp only [List.map_cons, List.map_nil, List.length_cons, List.length_nil]
  simp [isiF, isiB, k1, k5, e, af, -Bool.decide_and]
theorem pair_ok (a b : Int) : F_is_pair [.tup [.int a, .int b]] st = .ok (.bl true) st := by
  have e := lc_yes (b := bName 1) (t := eCall F_is_integer (aCons (eVar 1) aNil)) (e := [.val (.tup [.int a, .int b]), .non]) (st := st) PV.int (fun x => .bl true) [a, b] fun x hx => ⟨[.val (.tup [.int a, .int b]), .val (.int x)], by simp, by simp [isint_i]⟩
  have af : allF [.lst [.bl true, .bl true]] = some (.bl true) := rfl
  simp only [List.map_cons, List.map_nil] at e
  unfold F_is_pair mkFn f_is_pair l_is_pair_0
  simp [isiF, isiB, e, af]
theorem at_ints {c : List Int} {i : Int} {x : Int} (h0 : 0 ≤ i) (h : c[i.toNat]? = some x) : atI (c.map PV.int) i = some (.int x) := by
  obtain ⟨k, e⟩ := List.getElem?_eq_some_iff.mp h
  have q := atI_nat (l := c.map PV.int) (i := i.toNat) (by rw [List.length_map]; exact k)
  rw [Int.toNat_of_nonneg h0] at q
  rw [q, List.getElem_map, e]
theorem offer_ok {c : List Int} {p : Int × Int} (h : 0 ≤ p.1 ∧ p.1 < c.length ∧ 1 ≤ p.2 ∧ ∃ x, c[p.1.toNat]? = some x ∧ p.2 ≤ x) : F_is_offer [intsV c, pairV p] st = .ok (.bl true) st := by
  obtain ⟨h1, h2, h3, x, h4, h5⟩ := h
  have e := at_ints h1 h4
  unfold F_is_offer mkFn f_is_offer
  simp [pair_ok, atp0, atp1, h1, h2, h3, e, h5]
theorem rises_ok {l : List Int} (v : List PV → PV) (hv : v = PV.tup ∨ v = PV.lst) (h : Rises l) : F_rises [v (l.map PV.int)] st = .ok (.bl true) st := by
  have e := lc_yes (b := bTup ((bName 1) :: ((bName 2) :: []))) (t := eOp ltF (eVar 1) (eVar 2)) (e := [.val (v (l.map PV.int)), .non, .non]) (st := st) (fun q : Int × Int => PV.tup [.int q.1, .int q.2]) (fun q => .bl (decide (q.1 < q.2))) (l.zip l.tail) fun q hq => ⟨[.val (v (l.map PV.int)), .val (.int q.1), .val (.int q.2)], by simp, by simp⟩
  have af := allF_map (fun q : Int × Int => decide (q.1 < q.2)) (l.zip l.tail)
  rw [rises_zip l h] at af
  have z := zipF_map PV.int l l.tail
  unfold F_rises mkFn f_rises l_rises_0
  rcases hv with rfl | rfl
  · simp [slF, cut1, ← List.map_tail, z, e, af]
  · simp [slF, cut1, ← List.map_tail, z, e, af]
theorem deal_ok {c : List Int} {d : Deal} (h : DealOk c d) : F_is_deal [intsV c, dealV d] st = .ok (.bl true) st := by
  have e1 := lc_yes (b := bName 2) (t := eCall F_is_offer (aCons (eVar 0) (aCons (eVar 2) aNil))) (e := [.val (intsV c), .val (dealV d), .non]) (st := st) pairV (fun _ => .bl true) d fun p hp => ⟨[.val (intsV c), .val (dealV d), .val (pairV p)], by simp, by simp [offer_ok (h.1 p hp)]⟩
  have e2 := lc_yes (b := bName 2) (t := eIx (eVar 2) (eC (.int 0))) (e := [.val (intsV c), .val (dealV d), .non]) (st := st) pairV (fun p => .int p.1) d fun p hp => ⟨[.val (intsV c), .val (dealV d), .val (pairV p)], by simp, by simp [atp0]⟩
  have af := allF_true d
  have r : F_rises [PV.lst (d.map fun p => PV.int p.1)] st = .ok (.bl true) st := by
    have := rises_ok (st := st) PV.lst (.inr rfl) h.2
    rw [List.map_map] at this
    exact this
  unfold F_is_deal mkFn f_is_deal l_is_deal_0 l_is_deal_1
  simp [isiF, isiB, e1, e2, af, r]
theorem deals_ok {c : List Int} {ds : List Deal} (h : DealsOk c ds) : F_are_deals [intsV c, dealsV ds] st = .ok (.bl true) st := by
  have e1 := lc_yes (b := bName 2) (t := eCall F_is_deal (aCons (eVar 0) (aCons (eVar 2) aNil))) (e := [.val (intsV c), .val (dealsV ds), .non]) (st := st) dealV (fun _ => .bl true) ds fun d hd => ⟨[.val (intsV c), .val (dealsV ds), .val (dealV d)], by simp, by simp [deal_ok (h.2 d hd)]⟩
  have af := allF_true ds
  have k5 : (ds.length : Int) ≤ 5 := by have := h.1; omega
  unfold F_are_deals mkFn f_are_deals l_are_deals_0
  simp [isiF, isiB, e1, af, k5]
theorem set_ok {m : Nat} {l : List Int} (h1 : ∀ x ∈ l, 0 ≤ x ∧ x < m) (h2 : Rises l) : F_is_set [intsV l, .int (m : Int)] st = .ok (.bl true) st := by
  have e1 := lc_yes (b := bName 2) (t := eCall F_is_between (aCons (eVar 2) (aCons (eC (.int 0)) (aCons (eOp subF (eVar 1) (eC (.int 1))) aNil)))) (e := [.val (intsV l), .val (.int (m : Int)), .non]) (st := st) PV.int (fun x => .bl true) l fun x hx => ⟨[.val (intsV l), .val (.int (m : Int)), .val (.int x)], by simp, by
    have := h1 x hx
    have q : decide (0 ≤ x ∧ x ≤ (m : Int) - 1) = true := decide_eq_true (by omega)
    simp only [eCall_e, aCons_e, eVar_e, eC_e, eOp_e, aNil_e, bind_ok, List.getElem?_cons_succ, List.getElem?_cons_zero, subF_int, of_some]
    rw [between_i, q]⟩
  have af := allF_true l
  have r := rises_ok (st := st) PV.tup (.inl rfl) h2
  unfold F_is_set mkFn f_is_set l_is_set_0
  simp [isiF, isiB, e1, af, r]
theorem grp_ok {m : Nat} {g : Grp} (h : GrpOk m g) : F_is_group [.int (m : Int), grpV g] st = .ok (.bl true) st := by
  have q : decide ((0 : Int) ≤ g.1 ∧ g.1 ≤ 5) = true := decide_eq_true ⟨h.1, h.2.1⟩
  have ne := neF_ints g.2 []
  rw [decide_eq_false h.2.2.1] at ne
  have l0 : (0 : Nat) ≤ LINE := by decide
  have ne2 : neF (intsV g.2) (.tup []) = some (.bl true) := ne
  unfold F_is_group mkFn f_is_group
  simp [isiF, isiB, neF_int, atp0, atp1, between_i, q, set_ok h.2.2.2.2 h.2.2.2.1, ne2, l0, -Bool.decide_and]
theorem grps_ok {m : Nat} {gs : List Grp} (h : GrpsOk m gs) : F_are_groups [.int (m : Int), grpsV gs] st = .ok (.bl true) st := by
  have e1 := lc_yes (b := bName 2) (t := eCall F_is_group (aCons (eVar 0) (aCons (eVar 2) aNil))) (e := [.val (.int (m : Int)), .val (grpsV gs), .non]) (st := st) grpV (fun _ => .bl true) gs fun d hd => ⟨[.val (.int (m : Int)), .val (grpsV gs), .val (grpV d)], by simp, by simp [grp_ok (h.2.1 d hd)]⟩
  have af := allF_true gs
  have k5 : (gs.length : Int) ≤ 5 := by have := h.1; omega
  unfold F_are_groups mkFn f_are_groups l_are_groups_0
  simp [isiF, isiB, e1, af, k5]
/-- x in a tuple of numbers -/
theorem in_ints (x : Int) (l : List Int) : inF (.int x) (intsV l) = some (.bl (decide (x ∈ l))) := by
  unfold inF
  have hf : (l.map PV.int).all PL.flatB = true := by
    rw [List.all_map]
    exact List.all_eq_true.mpr fun y _ => rfl
  show (if PL.flatB (.int x) = true ∧ (l.map PV.int).all PL.flatB = true then some (PV.bl ((l.map PV.int).any fun y => eqFl y (.int x))) else none) = _
  rw [if_pos ⟨rfl, hf⟩, List.any_map]
  congr 2
  rw [Bool.eq_iff_iff]
  simp only [List.any_eq_true, decide_eq_true_eq]
  constructor
  · rintro ⟨y, hy, e⟩
    have e : (y == x) = true := e
    rw [← beq_iff_eq.mp e]
    exact hy
  · exact fun h => ⟨x, h, beq_iff_eq.mpr rfl⟩
theorem apart_e (a b : List Int) : F_are_apart [intsV a, intsV b] st = .ok (.bl (decide (∀ x ∈ a, x ∉ b))) st := by
  have e1 := lc_yes (b := bName 2) (t := eOp inF (eVar 2) (eVar 1)) (e := [.val (intsV a), .val (intsV b), .non]) (st := st) PV.int (fun x => .bl (decide (x ∈ b))) a fun x hx => ⟨[.val (intsV a), .val (intsV b), .val (.int x)], by simp, by simp [in_ints]⟩
  have af := anyF_map (fun x : Int => decide (x ∈ b)) a
  have q : (!a.any fun x => decide (x ∈ b)) = decide (∀ x ∈ a, x ∉ b) := by
    rw [Bool.eq_iff_iff]
    simp
  unfold F_are_apart mkFn f_are_apart l_are_apart_0
  simp only [List.map_cons, List.map_nil, List.length_cons, List.length_nil]
  simp [e1, af]
  rw [← q]
  simp
theorem inside_e (a b : List Int) : F_is_inside [intsV a, intsV b] st = .ok (.bl (decide (∀ x ∈ a, x ∈ b))) st := by
  have e1 := lc_yes (b := bName 2) (t := eOp inF (eVar 2) (eVar 1)) (e := [.val (intsV a), .val (intsV b), .non]) (st := st) PV.int (fun x => .bl (decide (x ∈ b))) a fun x hx => ⟨[.val (intsV a), .val (intsV b), .val (.int x)], by simp, by simp [in_ints]⟩
  have af := allF_map (fun x : Int => decide (x ∈ b)) a
  unfold F_is_inside mkFn f_is_inside l_is_inside_0
  simp [e1, af]
  rw [Bool.eq_iff_iff]
  simp
theorem cross_ok {a b : List Int} (h : Meet a b) : F_do_cross [intsV a, intsV b] st = .ok (.bl false) st := by
  unfold F_do_cross mkFn f_do_cross
  have e0 := eqF_ints a b
  rw [decide_eq_false h.1] at e0
  have a0 := apart_e (st := st) a b
  have i1 := inside_e (st := st) a b
  have i2 := inside_e (st := st) b a
  rcases h.2 with h2 | h2 | h2
  · rw [decide_eq_true h2] at a0
    simp [e0, a0]
  · rw [decide_eq_true h2] at i1
    by_cases q : ∀ x ∈ a, x ∉ b
    · rw [decide_eq_true q] at a0
      simp [e0, a0]
    · rw [decide_eq_false q] at a0
      simp [e0, a0, i1]
  · rw [decide_eq_true h2] at i2
    by_cases q : ∀ x ∈ a, x ∉ b
    · rw [decide_eq_true q] at a0
      simp [e0, a0]
    · rw [decide_eq_false q] at a0
      by_cases q2 : ∀ x ∈ a, x ∈ b
      · rw [decide_eq_true q2] at i1
        simp [e0, a0, i1]
      · rw [decide_eq_false q2] at i1
        simp [e0, a0, i1, i2]
end
end Q09
namespace Q09
open PySem PySem.Spec L2 PL Rc
/-! ### made -/
section
variable {st : Sto}
theorem inner_ok {g : Grp} {v0 v1 : EV} : ∀ (xs : List PV) (e : PL.Env) (st' : Sto), (st' = st ∧ (∃ y3 y4, e = [v0, v1, .val (grpV g), y3, y4]) ∧ ∀ y ∈ xs, ∃ (i : Int) (a : Grp), y = .tup [.int i, grpV a] ∧ Meet a.2 g.2) →
    ∃ e' st2, forLoop (bTup ((bName 3) :: ((bName 4) :: []))) t_first_crossed_0 xs e st' = .nx e' st2 ∧ st2 = st ∧ (∃ y3 y4, e' = [v0, v1, .val (grpV g), y3, y4]) := fun xs e st' h => by
  obtain ⟨e', st2, h1, h2, h3, _⟩ := for_inv (b := bTup ((bName 3) :: ((bName 4) :: []))) (t := t_first_crossed_0) (fun xs e st' => st' = st ∧ (∃ y3 y4, e = [v0, v1, .val (grpV g), y3, y4]) ∧ ∀ y ∈ xs, ∃ (i : Int) (a : Grp), y = .tup [.int i, grpV a] ∧ Meet a.2 g.2) (fun x xs e st' ⟨h1, ⟨y3, y4, h2⟩, h3⟩ => by
    subst h1 h2
    obtain ⟨i, a, rfl, m⟩ := h3 x List.mem_cons_self
    refine ⟨[v0, v1, .val (grpV g), .val (.int i), .val (grpV a)], [v0, v1, .val (grpV g), .val (.int i), .val (grpV a)], st', by simp, ?_, rfl, ⟨_, _, rfl⟩, fun y hy => h3 y (List.mem_cons_of_mem _ hy)⟩
    have c := cross_ok (st := st') m
    unfold t_first_crossed_0
    simp [atp1, c]) xs e st' h
  exact ⟨e', st2, h1, h2, h3⟩
theorem crossed_ok {gs : List Grp} (h : gs.Pairwise fun a b => Meet a.2 b.2) : F_first_crossed [grpsV gs] st = .ok .non st := by
  obtain ⟨e', st2, h1, h2, ⟨y1, y2, y3, y4, h3⟩, _⟩ := for_inv (b := bTup ((bName 1) :: ((bName 2) :: []))) (t := t_first_crossed_1) (fun xs e st' => st' = st ∧ (∃ y1 y2 y3 y4, e = [.val (grpsV gs), y1, y2, y3, y4]) ∧ ∀ y ∈ xs, ∃ (i : Nat) (hi : i < gs.length), y = .tup [.int (i : Int), grpV gs[i]]) (fun x xs e st' ⟨h1, ⟨y1, y2, y3, y4, h2⟩, h3⟩ => by
    subst h1 h2
    obtain ⟨i, hi, rfl⟩ := h3 x List.mem_cons_self
    have ct : cutF (gs.map grpV) none (some (i : Int)) = (gs.take i).map grpV := by
      unfold cutF
      rw [HT.sIx_nat, HT.sIx_none, List.length_map, List.map_take]
      simp [Nat.min_eq_left (Nat.le_of_lt hi)]
    obtain ⟨e2, st2, k1, k2, y3', y4', k3⟩ := inner_ok (st := st') (g := gs[i]) (v0 := .val (grpsV gs)) (v1 := .val (.int (i : Int))) (enumF 0 ((gs.take i).map grpV)) [.val (grpsV gs), .val (.int (i : Int)), .val (grpV gs[i]), y3, y4] st' ⟨rfl, ⟨_, _, rfl⟩, fun y hy => by
      rw [enum_map] at hy
      obtain ⟨⟨a, j⟩, hq, rfl⟩ := List.mem_map.mp hy
      have hq := List.mem_zipIdx' hq
      have hj := hq.1
      rw [List.length_take] at hj
      refine ⟨(j : Int), a, rfl, ?_⟩
      have e : a = gs[j] := by rw [hq.2, List.getElem_take]
      subst e
      exact List.pairwise_iff_getElem.mp h j i (by omega) hi (by omega)⟩
    subst k2 k3
    refine ⟨[.val (grpsV gs), .val (.int (i : Int)), .val (grpV gs[i]), y3, y4], [.val (grpsV gs), .val (.int (i : Int)), .val (grpV gs[i]), y3', y4'], st2, by simp, ?_, rfl, ⟨_, _, _, _, rfl⟩, fun y hy => h3 y (List.mem_cons_of_mem _ hy)⟩
    rw [List.map_take] at k1 ct
    unfold t_first_crossed_1 w_first_crossed_0
    simp [slF, ct, k1]) (enumF 0 (gs.map grpV)) [.val (grpsV gs), .non, .non, .non, .non] st ⟨rfl, ⟨_, _, _, _, rfl⟩, fun y hy => by
      rw [enum_map] at hy
      obtain ⟨⟨a, j⟩, hq, rfl⟩ := List.mem_map.mp hy
      obtain ⟨hj, ea⟩ := List.mem_zipIdx' hq
      exact ⟨j, hj, congrArg (fun a => PV.tup [.int (j : Int), grpV a]) ea⟩⟩
  subst h2 h3
  unfold F_first_crossed mkFn f_first_crossed w_first_crossed_1
  simp [h1]
theorem fld_push {c f : Str} {ns : List Str} {vs : List PV} {p : PV} (h : ns.length < 1000) : fldSet c f (st ++ [.ins c ns vs]) (.gl st.length) p = some (st ++ [.ins c (putNs f ns) (putVs f p ns vs)]) := by
  unfold fldSet
  dsimp only
  rw [List.getElem?_append_right (Nat.le_refl _), Nat.sub_self]
  dsimp only [List.getElem?_cons_zero]
  rw [if_pos ⟨rfl, h⟩, List.set_append_right _ _ (Nat.le_refl _), Nat.sub_self]
  rfl
theorem init_ok {c : List Int} {ds : List Deal} {gs : List Grp} (h : RcOk c ds gs) : F_Receipt___init__ [.gl st.length, intsV c, dealsV ds, grpsV gs] (st ++ [.ins "Receipt" [] []]) = .ok .non (st ++ [.ins "Receipt" ["costs", "offers", "bounds"] [intsV c, dealsV ds, grpsV gs]]) := by
  have l3 : (3 : Nat) ≤ LINE := by decide
  have f1 := fld_push (st := st) (c := "Receipt") (f := "costs") (ns := []) (vs := []) (p := intsV c) (by decide)
  have f2 := fld_push (st := st) (c := "Receipt") (f := "offers") (ns := ["costs"]) (vs := [intsV c]) (p := dealsV ds) (by decide)
  have f3 := fld_push (st := st) (c := "Receipt") (f := "bounds") (ns := ["costs", "offers"]) (vs := [intsV c, dealsV ds]) (p := grpsV gs) (by decide)
  have n1 : putNs "costs" [] = (["costs"] : List Str) := rfl
  have n2 : putNs "offers" ["costs"] = (["costs", "offers"] : List Str) := by decide
  have n3 : putNs "bounds" ["costs", "offers"] = (["costs", "offers", "bounds"] : List Str) := by decide
  have v1 : putVs "costs" (intsV c) [] [] = [intsV c] := rfl
  have v2 : putVs "offers" (dealsV ds) ["costs"] [intsV c] = [intsV c, dealsV ds] := by
    unfold putVs
    rw [if_neg (by decide)]
    rfl
  have v3 : putVs "bounds" (grpsV gs) ["costs", "offers"] [intsV c, dealsV ds] = [intsV c, dealsV ds, grpsV gs] := by
    unfold putVs
    rw [if_neg (by decide)]
    unfold putVs
    rw [if_neg (by decide)]
    rfl
  rw [n1, v1] at f1
  rw [n2, v2] at f2
  rw [n3, v3] at f3
  have gk := grps_ok (st := st ++ [.ins "Receipt" [] []]) h.gok
  unfold F_Receipt___init__ mkFn f_Receipt___init__
  simp [prices_ok h.cok, deals_ok h.dok, gk, crossed_ok h.gok.2.2, isntF, isNonB, l3, f1, f2, f3]
mutual
theorem gl_sm : ∀ (p : PV) (n : Nat), smB p = true → glB n p = true
  | .non, _, _ => by unfold glB; rfl
  | .bl _, _, _ => by unfold glB; rfl
  | .int _, _, _ => by unfold glB; rfl
  | .str _, _, _ => by unfold glB; rfl
  | .scr _, _, h => by unfold smB at h; cases h
  | .gl _, _, h => by unfold smB at h; cases h
  | .ins _ _ _, _, h => by unfold smB at h; cases h
  | .cls _, _, h => by unfold smB at h; cases h
  | .tud _, _, h => by unfold smB at h; cases h
  | .exn _ _ _ _ _, _, h => by unfold smB at h; cases h
  | .tup l, n, h => by unfold glB; exact gls_sm l n (by unfold smB at h; exact h)
  | .lst l, n, h => by unfold glB; exact gls_sm l n (by unfold smB at h; exact h)
theorem gls_sm : ∀ (l : List PV) (n : Nat), smBs l = true → glBs n l = true
  | [], _, _ => by unfold glBs; rfl
  | p :: ps, n, h => by
    have h : (smB p && smBs ps) = true := by unfold smBs at h; exact h
    rw [Bool.and_eq_true] at h
    unfold glBs
    rw [gl_sm p n h.1, gls_sm ps n h.2]
    rfl
end
mutual
theorem gl_mono : ∀ (p : PV) (n m : Nat), n ≤ m → glB n p = true → glB m p = true
  | .non, _, _, _, _ => by unfold glB; rfl
  | .bl _, _, _, _, _ => by unfold glB; rfl
  | .int _, _, _, _, _ => by unfold glB; rfl
  | .str _, _, _, _, _ => by unfold glB; rfl
  | .cls _, _, _, _, _ => by unfold glB; rfl
  | .tud l, n, m, hm, h => by
    have h : glBs n l = true := by unfold glB at h; exact h
    unfold glB
    exact gls_mono l n m hm h
  | .scr _, _, _, _, _ => by unfold glB; rfl
  | .gl k, n, m, hm, h => by
    have h : decide (k < n) = true := by unfold glB at h; exact h
    have := of_decide_eq_true h
    unfold glB
    exact decide_eq_true (by omega)
  | .ins _ _ l, n, m, hm, h => by unfold glB; exact gls_mono l n m hm (by unfold glB at h; exact h)
  | .exn _ _ _ _ l, n, m, hm, h => by unfold glB; exact gls_mono l n m hm (by unfold glB at h; exact h)
  | .tup l, n, m, hm, h => by unfold glB; exact gls_mono l n m hm (by unfold glB at h; exact h)
  | .lst l, n, m, hm, h => by unfold glB; exact gls_mono l n m hm (by unfold glB at h; exact h)
theorem gls_mono : ∀ (l : List PV) (n m : Nat), n ≤ m → glBs n l = true → glBs m l = true
  | [], _, _, _, _ => by unfold glBs; rfl
  | p :: ps, n, m, hm, h => by
    have h : (glB n p && glBs n ps) = true := by unfold glBs at h; exact h
    rw [Bool.and_eq_true] at h
    unfold glBs
    rw [gl_mono p n m hm h.1, gls_mono ps n m hm h.2]
    rfl
end
theorem Cln.all {st : Sto} (h : Cln st) (n : Nat) : st.all (glC n) = true := List.all_eq_true.mpr fun c hc => by
  have h2 := h c hc
  cases c with
  | lst l => exact gls_mono l 0 n (Nat.zero_le _) h2
  | ins c0 ns l => exact gls_mono l 0 n (Nat.zero_le _) h2
  | dead => first | rfl | cases h2
  | dk kvs => exact gls_mono _ 0 n (Nat.zero_le _) h2
  | dt kvs => exact gls_mono _ 0 n (Nat.zero_le _) h2
  | tbl _ _ => rfl
theorem make_ok {c : List Int} {ds : List Deal} {gs : List Grp} (h : RcOk c ds gs) (hc : Cln st) : makF "Receipt" F_Receipt___init__ [intsV c, dealsV ds, grpsV gs] st = .ok (rcV c ds gs) st := by
  have e := init_ok (st := st) h
  have t : (st ++ [Cell.ins "Receipt" ["costs", "offers", "bounds"] [intsV c, dealsV ds, grpsV gs]]).take st.length = st := by simp
  have a1 := sm_intsV h.cok.2.1 fun x hx => by have := h.cok.2.2 x hx; omega
  have a2 := sm_deals h.cok h.dok
  have a3 := sm_grps h.dok.1 h.gok
  have g : glBs st.length [intsV c, dealsV ds, grpsV gs] = true := by
    unfold glBs
    rw [gl_sm _ _ a1.1]
    unfold glBs
    rw [gl_sm _ _ a2.1]
    unfold glBs
    rw [gl_sm _ _ a3.1]
    unfold glBs
    rfl
  unfold makF
  rw [e]
  dsimp only
  rw [t, if_pos ⟨by simp, hc.all _⟩, List.getElem?_append_right (Nat.le_refl _), Nat.sub_self]
  dsimp only [List.getElem?_cons_zero]
  rw [if_pos ⟨rfl, g⟩]
end
/-! ### what a receipt tells -/
section
variable {st : Sto} {c : List Int} {ds : List Deal} {gs : List Grp}
theorem isIns_rc : isIns "Receipt" st (rcV c ds gs) = true := by simp [isIns, insF]
theorem isInsNo_rc {m : Str} (h : (["costs", "offers", "bounds"] : List Str).contains m = false) : isInsNo "Receipt" m st (rcV c ds gs) = true := by
  unfold isInsNo insF
  dsimp only
  rw [h]
  simp
theorem fld_costs : fldF "Receipt" "costs" st (rcV c ds gs) = some (intsV c) := by
  unfold fldF insF
  dsimp only
  rw [if_pos rfl]
  rfl
theorem fld_offers : fldF "Receipt" "offers" st (rcV c ds gs) = some (dealsV ds) := by
  have e1 : (("offers" : Str) == ("costs" : Str)) = false := by decide
  unfold fldF insF
  dsimp only
  rw [if_pos rfl]
  simp [List.lookup, e1]
theorem fld_bounds : fldF "Receipt" "bounds" st (rcV c ds gs) = some (grpsV gs) := by
  have e1 : (("bounds" : Str) == ("costs" : Str)) = false := by decide
  have e2 : (("bounds" : Str) == ("offers" : Str)) = false := by decide
  unfold fldF insF
  dsimp only
  rw [if_pos rfl]
  simp [List.lookup, e1, e2]
end
end Q09
namespace Q09
open PySem PySem.Spec L2 PL Rc
/-! ### texts -/
section
variable {st : Sto} {c : List Int} {ds : List Deal} {gs : List Grp}
def nameT (a b g : Nat) : Str := (("Receipt(" : Str) ++ Str.join ", " [numT a ++ (" lines" : Str), numT b ++ (" deals" : Str), numT g ++ (" groups" : Str)]) ++ (")" : Str)
theorem joinF_map {α : Type} {f : α → Str} {a : Str} {l : List α} {A B n : Nat} (h1 : ∀ x ∈ l, TxOk B (f x)) (h2 : l.length ≤ n) (ha : a.length ≤ A) (h3 : n * (B + A) ≤ 16777216) : joinF a (.lst (l.map fun x => PV.str (f x))) = some (.str (Str.join a (l.map f))) := by
  have e : (l.map fun x => PV.str (f x)) = (l.map f).map PV.str := by rw [List.map_map]; rfl
  rw [e]
  refine joinF_ok (B := B) (n := n) (fun y hy => ?_) (by rw [List.length_map]; exact h2) (Nat.le_trans (Nat.mul_le_mul_left _ (Nat.add_le_add_left ha _)) h3)
  obtain ⟨x, hx, rfl⟩ := List.mem_map.mp hy
  exact (h1 x hx).2
theorem nums_e {l : List Int} (v : List PV → PV) (hv : v = PV.tup ∨ v = PV.lst) (hl : l.length ≤ 5) (h : ∀ x ∈ l, 0 ≤ x ∧ x ≤ 9999) : F_numbers_text [v (l.map PV.int)] st = .ok (.str (numsT l)) st := by
  have e := lc_yes (b := bName 1) (t := eB strF (aCons (eVar 1) aNil)) (e := [.val (v (l.map PV.int)), .non]) (st := st) PV.int (fun x => .str (numT x)) l fun x hx => ⟨[.val (v (l.map PV.int)), .val (.int x)], by simp, by
    have := h x hx
    simp [strF_num (i := x) (by omega) (by omega)]⟩
  have j := joinF_map (a := " ") (A := 1) (B := 13) (n := 5) (f := numT) (l := l) (fun x hx => by have := h x hx; exact num_ok (by omega) (by omega)) hl (by decide) (by decide)
  unfold F_numbers_text mkFn f_numbers_text l_numbers_text_0
  rcases hv with rfl | rfl
  · simp [e, j, numsT]
  · simp [e, j, numsT]
theorem offt_e {p : Int × Int} (h : 0 ≤ p.1 ∧ p.1 ≤ 4 ∧ 1 ≤ p.2 ∧ p.2 ≤ 9999) : (((Str.empty ++ (" " : Str)) ++ numT p.1) ++ (":" : Str)) ++ numT p.2 = offT p := by
  rw [Str.empty_append]
  rfl
theorem tx_lit (s : String) {n : Nat} (h : (Str.ofString s).length ≤ n) : TxOk n (Str.ofString s) := ⟨strOk_ofString s, h⟩
theorem jl {A B : Nat} {x y : Str} (h1 : TxOk A x) (h2 : TxOk B y) (h : A + B ≤ 16777216) : (x ++ y).length ≤ LINE := Nat.le_trans (h1.append h2).2 h
theorem row_e {d : Deal} (hc : CostsOk c) (h : DealOk c d) {e0 e1 e2 e3 e7 e8 : EV} : l_receipt_lines_0 [e0, e1, e2, e3, .val (dealV d), .non, .non, e7, e8] st = .ok (d.map fun p => PV.str (offT p)) st := by
  have e := lc_yes (b := bTup ((bName 5) :: ((bName 6) :: []))) (t := eJStr (jCons (eC (.str " ")) (jCons (eFmt (eVar 5)) (jCons (eC (.str ":")) (jCons (eFmt (eVar 6)) jNil))))) (e := [e0, e1, e2, e3, .val (dealV d), .non, .non, e7, e8]) (st := st) pairV (fun p => .str (offT p)) d fun p hp => ⟨[e0, e1, e2, e3, .val (dealV d), .val (.int p.1), .val (.int p.2), e7, e8], by simp, by
    have q := h.price hc hp
    have n1 := num_ok (i := p.1) (by omega) (by omega)
    have n2 := num_ok (i := p.2) (by omega) (by omega)
    have t1 : TxOk 1 (Str.empty ++ (" " : Str)) := ⟨strOk_append strOk_empty (strOk_ofString _), by decide⟩
    have t2 := t1.append n1
    have t3 := t2.append (tx_lit ":" (n := 1) (by decide))
    have l1 : (Str.empty ++ (" " : Str)).length ≤ LINE := by decide
    have l2 := jl t1 n1 (by decide)
    have l3 := jl t2 (tx_lit ":" (n := 1) (by decide)) (by decide)
    have l4 := jl t3 n2 (by decide)
    rw [offt_e q] at l4
    simp [strOfN_num (i := p.1) (by omega) (by omega), strOfN_num (i := p.2) (by omega) (by omega), l1, l2, l3, l4, offt_e q]⟩
  unfold l_receipt_lines_0
  simp [e]
theorem lines_e (h : RcOk c ds gs) : F_receipt_lines [intsV c, dealsV ds, grpsV gs] st = .ok (.lst ((linesT c ds gs).map PV.str)) st := by
  have p0 : ∀ x ∈ c, 0 ≤ x ∧ x ≤ 9999 := fun x hx => by have := h.cok.2.2 x hx; omega
  have np := nums_e (st := st) PV.tup (.inl rfl) h.cok.2.1 p0
  have t0 := tx_lit "prices " (n := 7) (by decide)
  have ap := addF_tx t0 (numsT_ok h.cok.2.1 p0) (by decide)
  have l1 : (1 : Nat) ≤ LINE := by decide
  obtain ⟨e', st2, f1, f2, x4, x5, x6, x7, x8, f3, f4⟩ := for_inv (b := bName 4) (t := t_receipt_lines_0) (fun xs e st' => st' = st ∧ ∃ x4 x5 x6 x7 x8, (∃ done rest, ds = done ++ rest ∧ xs = rest.map dealV ∧ e = [.val (intsV c), .val (dealsV ds), .val (grpsV gs), .own (((("prices " : Str) ++ numsT c) :: done.map dealT).map PV.str), x4, x5, x6, x7, x8]) ∧ True) (fun x xs e st' ⟨h1, x4, x5, x6, x7, x8, ⟨done, rest, k1, k2, k3⟩, _⟩ => by
    subst h1 k3
    cases rest with
    | nil => cases k2
    | cons d rest =>
      obtain ⟨rfl, rfl⟩ := List.cons.inj k2
      have hd := h.dok.2 d (by rw [k1]; simp)
      have q := row_e (st := st') (e0 := .val (intsV c)) (e1 := .val (dealsV ds)) (e2 := .val (grpsV gs)) (e3 := .own (((("prices " : Str) ++ numsT c) :: done.map dealT).map PV.str)) (e7 := x7) (e8 := x8) h.cok hd
      have w : l_receipt_lines_0 [.val (intsV c), .val (dealsV ds), .val (grpsV gs), .own (((("prices " : Str) ++ numsT c) :: done.map dealT).map PV.str), .val (dealV d), x5, x6, x7, x8] st' = .ok (d.map fun p => PV.str (offT p)) st' := by
        rw [← q]
        unfold l_receipt_lines_0
        simp
      have j := joinF_map (a := "") (A := 0) (B := 28) (n := 5) (f := offT) (l := d) (fun p hp => offT_ok (hd.price h.cok hp)) (hd.len h.cok) (by decide) (by decide)
      have td := dealT_ok h.cok hd
      have a1 : addF (.str "deal") (.str (Str.join "" (d.map offT))) = some (.str (dealT d)) := addF_str (by have := td.2; unfold dealT at this; rw [Str.length_append] at this; omega)
      have dl : done.length ≤ 5 := by have := h.dok.1; rw [k1, List.length_append] at this; omega
      have ll : (((("prices " : Str) ++ numsT c) :: done.map dealT).map PV.str).length < LINE := by
        rw [List.length_map, List.length_cons, List.length_map]
        show _ < 16777216
        omega
      refine ⟨[.val (intsV c), .val (dealsV ds), .val (grpsV gs), .own (((("prices " : Str) ++ numsT c) :: done.map dealT).map PV.str), .val (dealV d), x5, x6, x7, x8], [.val (intsV c), .val (dealsV ds), .val (grpsV gs), .own (((("prices " : Str) ++ numsT c) :: (done ++ [d]).map dealT).map PV.str), .val (dealV d), x5, x6, x7, x8], st', by simp, ?_, rfl, .val (dealV d), x5, x6, x7, x8, ⟨done ++ [d], rest, by rw [k1]; simp, rfl, rfl⟩, trivial⟩
      unfold t_receipt_lines_0
      simp only [sSeq_e, sApp_e, eOp_e, eTx_e, eC_e, eLst_e, bind_ok, List.getElem?_cons_succ, List.getElem?_cons_zero, w, j, of_some, a1, toS_ok, if_pos ll]
      simp) (ds.map dealV) [.val (intsV c), .val (dealsV ds), .val (grpsV gs), .own [.str (("prices " : Str) ++ numsT c)], .non, .non, .non, .non, .non] st ⟨rfl, .non, .non, .non, .non, .non, ⟨[], ds, rfl, rfl, rfl⟩, trivial⟩
  obtain ⟨⟨done, rest, k1, k2, k3⟩, _⟩ := And.intro f3 f4
  have hr : rest = [] := List.map_eq_nil_iff.mp k2.symm
  subst hr f2 k3
  rw [List.append_nil] at k1
  subst k1
  have g := lc_yes (b := bTup ((bName 7) :: ((bName 8) :: []))) (t := eOp addF (eOp addF (eOp addF (eC (.str "group ")) (eB strF (aCons (eVar 7) aNil))) (eC (.str " of "))) (eCall F_numbers_text (aCons (eVar 8) aNil))) (e := [.val (intsV c), .val (dealsV ds), .val (grpsV gs), .own (((("prices " : Str) ++ numsT c) :: ds.map dealT).map PV.str), x4, x5, x6, .non, .non]) (st := st2) grpV (fun g => .str (grpT g)) gs fun g hg => ⟨[.val (intsV c), .val (dealsV ds), .val (grpsV gs), .own (((("prices " : Str) ++ numsT c) :: ds.map dealT).map PV.str), x4, x5, x6, .val (.int g.1), .val (intsV g.2)], by simp, by
    have hg := h.gok.2.1 g hg
    have g1 := hg.1
    have g2 := hg.2.1
    have m5 := h.dok.1
    have ql := hg.len m5
    have qb : ∀ x ∈ g.2, 0 ≤ x ∧ x ≤ 9999 := fun x hx => by have := hg.2.2.2.2 x hx; omega
    have n := nums_e (st := st2) PV.tup (.inl rfl) ql qb
    have s := strF_num (i := g.1) (by omega) (by omega)
    have u1 := tx_lit "group " (n := 6) (by decide)
    have u2 := num_ok (i := g.1) (by omega) (by omega)
    have u3 := tx_lit " of " (n := 4) (by decide)
    have b1 := addF_tx u1 u2 (by decide)
    have b2 := addF_tx (u1.append u2) u3 (by decide)
    have b3 := addF_tx ((u1.append u2).append u3) (numsT_ok ql qb) (by decide)
    simp only [eOp_e, eC_e, eB_e, aCons_e, aNil_e, eVar_e, eCall_e, bind_ok, List.getElem?_cons_succ, List.getElem?_cons_zero, s, of_some, b1, b2, n, b3]
    rfl⟩
  have ll := (lines_ok h).2
  have la : (((("prices " : Str) ++ numsT c) :: ds.map dealT).map PV.str).length + (gs.map fun g => PV.str (grpT g)).length ≤ LINE := by
    unfold linesT at ll
    simp only [List.length_cons, List.length_append, List.length_map] at ll ⊢
    show _ ≤ 16777216
    omega
  have ad : addF (.lst (((("prices " : Str) ++ numsT c) :: ds.map dealT).map PV.str)) (.lst (gs.map fun g => PV.str (grpT g))) = some (.lst ((linesT c ds gs).map PV.str)) := by
    unfold addF
    dsimp only
    rw [if_pos la]
    unfold linesT
    simp [List.map_map]
  unfold F_receipt_lines mkFn f_receipt_lines w_receipt_lines_0 l_receipt_lines_1
  simp only [List.map_cons, List.map_nil, List.map_map] at f1 g ad
  simp [np, ap, l1, f1, g, ad]
theorem text_e (h : RcOk c ds gs) : F_Receipt_text [rcV c ds gs] st = .ok (.str (textT c ds gs)) st := by
  have e := lc_yes (b := bName 1) (t := eOp addF (eVar 1) (eC (.str "\n"))) (e := [.val (rcV c ds gs), .non]) (st := st) PV.str (fun y => .str (y ++ ("\n" : Str))) (linesT c ds gs) fun y hy => ⟨[.val (rcV c ds gs), .val (.str y)], by simp, by
    have a := addF_tx ((lines_ok h).1 y hy) (tx_lit "\n" (n := 1) (by decide)) (by decide)
    simp [a]⟩
  have j := joinF_map (a := "") (A := 0) (B := 145) (n := 11) (f := fun y : Str => y ++ ("\n" : Str)) (l := linesT c ds gs) (fun y hy => ((lines_ok h).1 y hy).append (tx_lit "\n" (n := 1) (by decide))) (lines_ok h).2 (by decide) (by decide)
  have t : Str.join "" ((linesT c ds gs).map fun y : Str => y ++ ("\n" : Str)) = textT c ds gs := (join_nl "\n" (l := linesT c ds gs) (by unfold linesT; simp)).symm
  rw [t] at j
  unfold F_Receipt_text mkFn f_Receipt_text l_Receipt_text_0
  simp [fld_costs, fld_offers, fld_bounds, lines_e h, e, j]
theorem name_eq (a b g : Nat) : ((((((Str.empty ++ ("Receipt(" : Str)) ++ numT a) ++ (" lines, " : Str)) ++ numT b) ++ (" deals, " : Str)) ++ numT g) ++ (" groups)" : Str) = nameT a b g := by
  have l1 : (" lines, " : Str) = (" lines" : Str) ++ (", " : Str) := by decide
  have l2 : (" deals, " : Str) = (" deals" : Str) ++ (", " : Str) := by decide
  have l3 : (" groups)" : Str) = (" groups" : Str) ++ (")" : Str) := by decide
  unfold nameT
  show _ = (("Receipt(" : Str) ++ ((numT a ++ (" lines" : Str)) ++ (", " : Str) ++ ((numT b ++ (" deals" : Str)) ++ (", " : Str) ++ (numT g ++ (" groups" : Str))))) ++ (")" : Str)
  rw [Str.empty_append, l1, l2, l3]
  simp only [Str.append_assoc]
theorem name_ok {a b g : Nat} (h1 : a ≤ 9999) (h2 : b ≤ 9999) (h3 : g ≤ 9999) : TxOk 200 (nameT a b g) := by
  have n1 := num_ok (i := (a : Int)) (by omega) (by omega)
  have n2 := num_ok (i := (b : Int)) (by omega) (by omega)
  have n3 := num_ok (i := (g : Int)) (by omega) (by omega)
  refine (((tx_lit "Receipt(" (n := 8) (by decide)).append (TxOk.join (A := 2) (B := 30) (n := 3) (tx_lit ", " (by decide)) (fun y hy => ?_) (Nat.le_refl _))).append (tx_lit ")" (n := 1) (by decide))).mono (by decide)
  simp only [List.mem_cons, List.not_mem_nil, or_false] at hy
  rcases hy with rfl | rfl | rfl
  · exact (n1.append (tx_lit " lines" (n := 6) (by decide))).mono (by decide)
  · exact (n2.append (tx_lit " deals" (n := 6) (by decide))).mono (by decide)
  · exact (n3.append (tx_lit " groups" (n := 7) (by decide))).mono (by decide)
theorem repr_e (h1 : c.length ≤ 9999) (h2 : ds.length ≤ 9999) (h3 : gs.length ≤ 9999) : F_Receipt___repr__ [rcV c ds gs] st = .ok (.str (nameT c.length ds.length gs.length)) st := by
  have n1 := num_ok (i := (c.length : Int)) (by omega) (by omega)
  have n2 := num_ok (i := (ds.length : Int)) (by omega) (by omega)
  have n3 := num_ok (i := (gs.length : Int)) (by omega) (by omega)
  have t1 : TxOk 8 (Str.empty ++ ("Receipt(" : Str)) := ⟨strOk_append strOk_empty (strOk_ofString _), by decide⟩
  have t2 := t1.append n1
  have t3 := t2.append (tx_lit " lines, " (n := 8) (by decide))
  have t4 := t3.append n2
  have t5 := t4.append (tx_lit " deals, " (n := 8) (by decide))
  have t6 := t5.append n3
  have t7 := t6.append (tx_lit " groups)" (n := 8) (by decide))
  have l1 : (Str.empty ++ ("Receipt(" : Str)).length ≤ LINE := by decide
  have l2 : _ ≤ LINE := Nat.le_trans t2.2 (by decide)
  have l3 : _ ≤ LINE := Nat.le_trans t3.2 (by decide)
  have l4 : _ ≤ LINE := Nat.le_trans t4.2 (by decide)
  have l5 : _ ≤ LINE := Nat.le_trans t5.2 (by decide)
  have l6 : _ ≤ LINE := Nat.le_trans t6.2 (by decide)
  have l7 : _ ≤ LINE := Nat.le_trans t7.2 (by decide)
  rw [name_eq] at l7
  unfold F_Receipt___repr__ mkFn f_Receipt___repr__
  simp [fld_costs, fld_offers, fld_bounds, strOfN_num (i := (c.length : Int)) (by omega) (by omega), strOfN_num (i := (ds.length : Int)) (by omega) (by omega), strOfN_num (i := (gs.length : Int)) (by omega) (by omega), l1, l2, l3, l4, l5, l6, l7, name_eq]
theorem zLen_ok {n : Nat} (h : n ≤ 9999) : zLen (.int (n : Int)) = true := by
  unfold zLen
  exact decide_eq_true ⟨Int.natCast_nonneg n, by omega⟩
/-- all that a receipt tells -/
def dueV (c : List Int) (ds : List Deal) (gs : List Grp) : PV := .tup [intsV c, dealsV ds, grpsV gs, .int c.sum, .int ds.length, .str (nameT c.length ds.length gs.length), .str (textT c ds gs)]
theorem addF_tup {l m : List PV} (h : l.length + m.length ≤ 16777216) : addF (.tup l) (.tup m) = some (.tup (l ++ m)) := by
  unfold addF
  dsimp only
  rw [if_pos (show l.length + m.length ≤ LINE from h)]
theorem seen_e (h : RcOk c ds gs) : F__law_seen [rcV c ds gs] st = .ok (dueV c ds gs) st := by
  have hc := h.cok.2.1
  have hd := h.dok.1
  have hg := h.gok.1
  have e1 : F_Receipt_prices [rcV c ds gs] st = .ok (intsV c) st := by
    unfold F_Receipt_prices mkFn f_Receipt_prices
    simp [fld_costs]
  have e2 : F_Receipt_deals [rcV c ds gs] st = .ok (dealsV ds) st := by
    unfold F_Receipt_deals mkFn f_Receipt_deals
    simp [fld_offers]
  have e3 : F_Receipt_groups [rcV c ds gs] st = .ok (grpsV gs) st := by
    unfold F_Receipt_groups mkFn f_Receipt_groups
    simp [fld_bounds]
  have e4 : F_Receipt_total [rcV c ds gs] st = .ok (.int c.sum) st := by
    have e := lc_yes (b := bName 1) (t := eVar 1) (e := [.val (rcV c ds gs), .non]) (st := st) PV.int (fun y => .int y) c fun y hy => ⟨[.val (rcV c ds gs), .val (.int y)], by simp, by simp⟩
    unfold F_Receipt_total mkFn f_Receipt_total l_Receipt_total_0
    simp [fld_costs, e, sumF_ints]
  have e5 : F_Receipt___len__ [rcV c ds gs] st = .ok (.int ds.length) st := by
    unfold F_Receipt___len__ mkFn f_Receipt___len__
    simp [fld_offers]
  have e6 := repr_e (st := st) (c := c) (ds := ds) (gs := gs) (by omega) (by omega) (by omega)
  have e7 := text_e (st := st) h
  have z5 : zLen (.int (ds.length : Int)) = true := zLen_ok (by omega)
  have i1 : isInsNo "Receipt" "text" st (rcV c ds gs) = true := isInsNo_rc (by decide)
  have l4 : (4 : Nat) ≤ LINE := by decide
  have l3 : (3 : Nat) ≤ LINE := by decide
  have a := addF_tup (l := [intsV c, dealsV ds, grpsV gs, .int c.sum]) (m := [.int (ds.length : Int), .str (nameT c.length ds.length gs.length), .str (textT c ds gs)]) (by simp)
  unfold F__law_seen mkFn f__law_seen
  simp only [List.map_cons, List.map_nil, List.length_cons, List.length_nil]
  simp [isIns_rc, e1, e2, e3, e4, e5, e6, e7, z5, zStr, i1, l4, l3, a, dueV]
end
end Q09
namespace Q09
open PySem PySem.Spec L2 PL Rc
/-! ### what is due -/
section
variable {st : Sto} {c : List Int} {ds : List Deal} {gs : List Grp}
abbrev lsV (l : List Str) : EV := .own (l.map PV.str)
theorem ltext_e (h : RcOk c ds gs) : F__law_text [intsV c, dealsV ds, grpsV gs] st = .ok (.str (textT c ds gs)) st := by
  have p0 : ∀ x ∈ c, 0 ≤ x ∧ x ≤ 9999 := fun x hx => by have := h.cok.2.2 x hx; omega
  have t0 := tx_lit "prices " (n := 7) (by decide)
  have l1 : (1 : Nat) ≤ LINE := by decide
  -- prices
  have e0 := lc_yes (b := bName 7) (t := eB strF (aCons (eVar 7) aNil)) (e := [.val (intsV c), .val (dealsV ds), .val (grpsV gs), .non, .non, .non, .non, .non, .non, .non, .non]) (st := st) PV.int (fun x => .str (numT x)) c fun x hx => ⟨[.val (intsV c), .val (dealsV ds), .val (grpsV gs), .non, .non, .non, .non, .val (.int x), .non, .non, .non], by simp, by
    have := p0 x hx
    simp [strF_num (i := x) (by omega) (by omega)]⟩
  have j0 := joinF_map (a := " ") (A := 1) (B := 13) (n := 5) (f := numT) (l := c) (fun x hx => by have := p0 x hx; exact num_ok (by omega) (by omega)) h.cok.2.1 (by decide) (by decide)
  have a0 : addF (.str "prices ") (.str (Str.join " " (c.map numT))) = some (.str (("prices " : Str) ++ numsT c)) := addF_tx t0 (numsT_ok h.cok.2.1 p0) (by decide)
  -- deals
  obtain ⟨e', st2, f1, f2, x4, x5, x6, x7, x8, x9, x10, done, rest, k1, k2, k3⟩ := for_inv (b := bName 4) (t := t__law_text_0) (fun xs e st' => st' = st ∧ ∃ x4 x5 x6 x7 x8 x9 x10 done rest, ds = done ++ rest ∧ xs = rest.map dealV ∧ e = [.val (intsV c), .val (dealsV ds), .val (grpsV gs), lsV ((("prices " : Str) ++ numsT c) :: done.map dealT), x4, x5, x6, x7, x8, x9, x10]) (fun x xs e st' ⟨h1, x4, x5, x6, x7, x8, x9, x10, done, rest, k1, k2, k3⟩ => by
    subst h1 k3
    cases rest with
    | nil => cases k2
    | cons d rest =>
      obtain ⟨rfl, rfl⟩ := List.cons.inj k2
      have hd := h.dok.2 d (by rw [k1]; simp)
      have w := lc_yes (b := bTup ((bName 8) :: ((bName 9) :: []))) (t := eOp addF (eOp addF (eOp addF (eC (.str " ")) (eB strF (aCons (eVar 8) aNil))) (eC (.str ":"))) (eB strF (aCons (eVar 9) aNil))) (e := [.val (intsV c), .val (dealsV ds), .val (grpsV gs), lsV ((("prices " : Str) ++ numsT c) :: done.map dealT), .val (dealV d), x5, x6, x7, .non, .non, x10]) (st := st') pairV (fun p => .str (offT p)) d fun p hp => ⟨[.val (intsV c), .val (dealsV ds), .val (grpsV gs), lsV ((("prices " : Str) ++ numsT c) :: done.map dealT), .val (dealV d), x5, x6, x7, .val (.int p.1), .val (.int p.2), x10], by simp, by
        have q := hd.price h.cok hp
        have n1 := num_ok (i := p.1) (by omega) (by omega)
        have n2 := num_ok (i := p.2) (by omega) (by omega)
        have u1 := tx_lit " " (n := 1) (by decide)
        have u3 := tx_lit ":" (n := 1) (by decide)
        have b1 := addF_tx u1 n1 (by decide)
        have b2 := addF_tx (u1.append n1) u3 (by decide)
        have b3 := addF_tx ((u1.append n1).append u3) n2 (by decide)
        simp [strF_num (i := p.1) (by omega) (by omega), strF_num (i := p.2) (by omega) (by omega), b1, b2, b3, offT]⟩
      have j := joinF_map (a := "") (A := 0) (B := 28) (n := 5) (f := offT) (l := d) (fun p hp => offT_ok (hd.price h.cok hp)) (hd.len h.cok) (by decide) (by decide)
      have td := dealT_ok h.cok hd
      have a1 : addF (.str "deal") (.str (Str.join "" (d.map offT))) = some (.str (dealT d)) := addF_str (by have := td.2; unfold dealT at this; rw [Str.length_append] at this; omega)
      have dl : done.length ≤ 5 := by have := h.dok.1; rw [k1, List.length_append] at this; omega
      have ll : (((("prices " : Str) ++ numsT c) :: done.map dealT).map PV.str).length < LINE := by
        rw [List.length_map, List.length_cons, List.length_map]
        show _ < 16777216
        omega
      refine ⟨[.val (intsV c), .val (dealsV ds), .val (grpsV gs), lsV ((("prices " : Str) ++ numsT c) :: done.map dealT), .val (dealV d), x5, x6, x7, x8, x9, x10], [.val (intsV c), .val (dealsV ds), .val (grpsV gs), lsV ((("prices " : Str) ++ numsT c) :: (done ++ [d]).map dealT), .val (dealV d), x5, x6, x7, x8, x9, x10], st', by simp, ?_, rfl, .val (dealV d), x5, x6, x7, x8, x9, x10, done ++ [d], rest, by rw [k1]; simp, rfl, rfl⟩
      unfold t__law_text_0 l__law_text_1
      simp only [sSeq_e, sApp_e, eOp_e, eTx_e, eC_e, eLst_e, lLc_e, iSeq_e, eVar_e, wipeE_cons, wipeE_nil, List.set_cons_succ, List.set_cons_zero, bind_ok, List.getElem?_cons_succ, List.getElem?_cons_zero, w, j, of_some, a1, toS_ok, if_pos ll]
      simp) (ds.map dealV) [.val (intsV c), .val (dealsV ds), .val (grpsV gs), .own [.str (("prices " : Str) ++ numsT c)], .non, .non, .non, .non, .non, .non, .non] st ⟨rfl, .non, .non, .non, .non, .non, .non, .non, [], ds, rfl, rfl, rfl⟩
  have hr : rest = [] := List.map_eq_nil_iff.mp k2.symm
  subst hr f2 k3
  rw [List.append_nil] at k1
  subst k1
  -- groups
  obtain ⟨e', st3, g1, g2, y4, y5, y6, y7, y8, y9, y10, done, rest, m1, m2, m3⟩ := for_inv (b := bTup ((bName 5) :: ((bName 6) :: []))) (t := t__law_text_1) (fun xs e st' => st' = st2 ∧ ∃ x4 x5 x6 x7 x8 x9 x10 done rest, gs = done ++ rest ∧ xs = rest.map grpV ∧ e = [.val (intsV c), .val (dealsV ds), .val (grpsV gs), lsV ((("prices " : Str) ++ numsT c) :: (ds.map dealT ++ done.map grpT)), x4, x5, x6, x7, x8, x9, x10]) (fun x xs e st' ⟨h1, x4, x5, x6, x7, x8, x9, x10, done, rest, k1, k2, k3⟩ => by
    subst h1 k3
    cases rest with
    | nil => cases k2
    | cons g rest =>
      obtain ⟨rfl, rfl⟩ := List.cons.inj k2
      have hg := h.gok.2.1 g (by rw [k1]; simp)
      have q1 := hg.1
      have q2 := hg.2.1
      have m5 := h.dok.1
      have ql := hg.len m5
      have qb : ∀ x ∈ g.2, 0 ≤ x ∧ x ≤ 9999 := fun x hx => by have := hg.2.2.2.2 x hx; omega
      have w := lc_yes (b := bName 10) (t := eB strF (aCons (eVar 10) aNil)) (e := [.val (intsV c), .val (dealsV ds), .val (grpsV gs), lsV ((("prices " : Str) ++ numsT c) :: (ds.map dealT ++ done.map grpT)), x4, .val (.int g.1), .val (intsV g.2), x7, x8, x9, .non]) (st := st') PV.int (fun x => .str (numT x)) g.2 fun x hx => ⟨[.val (intsV c), .val (dealsV ds), .val (grpsV gs), lsV ((("prices " : Str) ++ numsT c) :: (ds.map dealT ++ done.map grpT)), x4, .val (.int g.1), .val (intsV g.2), x7, x8, x9, .val (.int x)], by simp, by
        have := qb x hx
        simp [strF_num (i := x) (by omega) (by omega)]⟩
      have j := joinF_map (a := " ") (A := 1) (B := 13) (n := 5) (f := numT) (l := g.2) (fun x hx => by have := qb x hx; exact num_ok (by omega) (by omega)) ql (by decide) (by decide)
      have s := strF_num (i := g.1) (by omega) (by omega)
      have u1 := tx_lit "group " (n := 6) (by decide)
      have u2 := num_ok (i := g.1) (by omega) (by omega)
      have u3 := tx_lit " of " (n := 4) (by decide)
      have b1 := addF_tx u1 u2 (by decide)
      have b2 := addF_tx (u1.append u2) u3 (by decide)
      have b3 : addF (.str ((("group " : Str) ++ numT g.1) ++ (" of " : Str))) (.str (Str.join " " (g.2.map numT))) = some (.str (grpT g)) := addF_tx ((u1.append u2).append u3) (numsT_ok ql qb) (by decide)
      have dl : done.length ≤ 5 := by have := h.gok.1; rw [k1, List.length_append] at this; omega
      have ll : (((("prices " : Str) ++ numsT c) :: (ds.map dealT ++ done.map grpT)).map PV.str).length < LINE := by
        rw [List.length_map, List.length_cons, List.length_append, List.length_map, List.length_map]
        show _ < 16777216
        omega
      refine ⟨[.val (intsV c), .val (dealsV ds), .val (grpsV gs), lsV ((("prices " : Str) ++ numsT c) :: (ds.map dealT ++ done.map grpT)), x4, .val (.int g.1), .val (intsV g.2), x7, x8, x9, x10], [.val (intsV c), .val (dealsV ds), .val (grpsV gs), lsV ((("prices " : Str) ++ numsT c) :: (ds.map dealT ++ (done ++ [g]).map grpT)), x4, .val (.int g.1), .val (intsV g.2), x7, x8, x9, x10], st', by simp, ?_, rfl, x4, .val (.int g.1), .val (intsV g.2), x7, x8, x9, x10, done ++ [g], rest, by rw [k1]; simp, rfl, rfl⟩
      unfold t__law_text_1 l__law_text_2
      simp only [sSeq_e, sApp_e, eOp_e, eTx_e, eC_e, eB_e, aCons_e, aNil_e, eLst_e, lLc_e, iSeq_e, eVar_e, wipeE_cons, wipeE_nil, List.set_cons_succ, List.set_cons_zero, bind_ok, List.getElem?_cons_succ, List.getElem?_cons_zero, s, b1, b2, w, j, of_some, b3, toS_ok, if_pos ll]
      simp) (gs.map grpV) [.val (intsV c), .val (dealsV ds), .val (grpsV gs), lsV ((("prices " : Str) ++ numsT c) :: (ds.map dealT ++ ([] : List Grp).map grpT)), x4, x5, x6, x7, x8, x9, x10] st2 ⟨rfl, x4, x5, x6, x7, x8, x9, x10, [], gs, rfl, rfl, rfl⟩
  have hr : rest = [] := List.map_eq_nil_iff.mp m2.symm
  subst hr g2 m3
  rw [List.append_nil] at m1
  subst m1
  have j9 : joinF "\n" (.lst ((linesT c ds gs).map PV.str)) = some (.str (Str.join "\n" (linesT c ds gs))) := joinF_ok (B := 144) (n := 11) (fun y hy => ((lines_ok h).1 y hy).2) (lines_ok h).2 (by decide)
  have a9 : addF (.str (Str.join "\n" (linesT c ds gs))) (.str "\n") = some (.str (textT c ds gs)) := addF_str (by have := (text_ok h).2; unfold textT at this; rw [Str.length_append] at this; omega)
  unfold linesT at j9
  simp only [List.map_nil, List.append_nil] at g1
  unfold F__law_text mkFn f__law_text w__law_text_0 w__law_text_1 l__law_text_0
  simp only [List.map_cons, List.map_nil, List.length_cons, List.length_nil, List.replicate, List.cons_append, List.nil_append, sSeq_e, sAsgO_e, lDisp_e, aCons_e, aNil_e, eOp_e, eTx_e, eC_e, eLst_e, lLc_e, iSeq_e, eVar_e, bind_ok, List.getElem?_cons_succ, List.getElem?_cons_zero, wipeE_cons, wipeE_nil, List.set_cons_succ, List.set_cons_zero, e0, j0, of_some, a0, toS_ok, if_pos l1, thn_nx, sFor_e, f1, g1, sRet_e, eOwn_e, j9]
  unfold linesT at a9
  simp only [List.map_cons, List.map_append, List.map_map] at j9
  simp [l1, f1, g1, j9, a9]
theorem due_e (h : RcOk c ds gs) : F__law_due [intsV c, dealsV ds, grpsV gs] st = .ok (dueV c ds gs) st := by
  have hc := h.cok.2.1
  have hd := h.dok.1
  have hg := h.gok.1
  have n1 := num_ok (i := (c.length : Int)) (by omega) (by omega)
  have n2 := num_ok (i := (ds.length : Int)) (by omega) (by omega)
  have n3 := num_ok (i := (gs.length : Int)) (by omega) (by omega)
  have s1 := strF_num (i := (c.length : Int)) (by omega) (by omega)
  have s2 := strF_num (i := (ds.length : Int)) (by omega) (by omega)
  have s3 := strF_num (i := (gs.length : Int)) (by omega) (by omega)
  have u1 := tx_lit " lines" (n := 6) (by decide)
  have u2 := tx_lit " deals" (n := 6) (by decide)
  have u3 := tx_lit " groups" (n := 7) (by decide)
  have a1 := addF_tx n1 u1 (by decide)
  have a2 := addF_tx n2 u2 (by decide)
  have a3 := addF_tx n3 u3 (by decide)
  have j : joinF ", " (.lst [.str (numT (c.length : Int) ++ (" lines" : Str)), .str (numT (ds.length : Int) ++ (" deals" : Str)), .str (numT (gs.length : Int) ++ (" groups" : Str))]) = some (.str (Str.join ", " [numT (c.length : Int) ++ (" lines" : Str), numT (ds.length : Int) ++ (" deals" : Str), numT (gs.length : Int) ++ (" groups" : Str)])) :=
    joinF_ok (ys := [numT (c.length : Int) ++ (" lines" : Str), numT (ds.length : Int) ++ (" deals" : Str), numT (gs.length : Int) ++ (" groups" : Str)]) (B := 30) (n := 3) (fun y hy => by
      simp only [List.mem_cons, List.not_mem_nil, or_false] at hy
      rcases hy with rfl | rfl | rfl
      · exact Nat.le_trans (n1.append u1).2 (by decide)
      · exact Nat.le_trans (n2.append u2).2 (by decide)
      · exact Nat.le_trans (n3.append u3).2 (by decide)) (Nat.le_refl _) (by decide)
  have nk := (name_ok (a := c.length) (b := ds.length) (g := gs.length) (by omega) (by omega) (by omega)).2
  unfold nameT at nk
  rw [Str.length_append, Str.length_append] at nk
  have b1 := addF_str (x := "Receipt(") (y := Str.join ", " [numT (c.length : Int) ++ (" lines" : Str), numT (ds.length : Int) ++ (" deals" : Str), numT (gs.length : Int) ++ (" groups" : Str)]) (by omega)
  have b2 : addF (.str (("Receipt(" : Str) ++ Str.join ", " [numT (c.length : Int) ++ (" lines" : Str), numT (ds.length : Int) ++ (" deals" : Str), numT (gs.length : Int) ++ (" groups" : Str)])) (.str ")") = some (.str (nameT c.length ds.length gs.length)) := addF_str (by rw [Str.length_append]; omega)
  have t := ltext_e (st := st) h
  have l3 : (3 : Nat) ≤ LINE := by decide
  have l7 : (7 : Nat) ≤ LINE := by decide
  unfold F__law_due mkFn f__law_due
  simp only [List.map_cons, List.map_nil, List.length_cons, List.length_nil]
  simp [s1, s2, s3, a1, a2, a3, j, b1, b2, t, l3, l7, listF, sumF_ints, dueV]
end
end Q09
namespace Q09
open PySem PySem.Spec L2 PL Rc
/-! ### a text read -/
section
variable {st : Sto} {c : List Int} {ds : List Deal} {gs : List Grp}
theorem number_in_e {i : Int} (h1 : 0 ≤ i) (h2 : i ≤ 9999) : F_number_in [.str (numT i)] st = .ok (.int i) st := by
  have l := num_len h1 h2
  have e := lc_yes (b := bName 1) (t := eOp inSign (eVar 1) (eC (.str "0123456789"))) (e := [.val (.str (numT i)), .non]) (st := st) (fun c => PV.str ⟨#[c]⟩) (fun _ => .bl true) (numT i).cps.toList fun c hc => ⟨[.val (.str (numT i)), .val (.str ⟨#[c]⟩)], by simp, by
    simp [figs c (num_signs h1 c hc)]⟩
  have a : allF [.lst ((numT i).cps.toList.map fun _ => PV.bl true)] = some (.bl true) := allF_true _
  have lL : (numT i).length ≤ LINE := by have : LINE = 16777216 := rfl; omega
  have ll : lenF [.str (numT i)] = some (.int (numT i).length) := lenF_str (by omega)
  have q1 : decide ((1 : Int) ≤ ((numT i).length : Int)) = true := decide_eq_true (by omega)
  have q2 : decide (((numT i).length : Int) ≤ 4) = true := decide_eq_true (by omega)
  have sz : (numT i).cps.toList.length ≤ LINE := by rw [show (numT i).cps.toList.length = (numT i).length from Array.length_toList]; exact lL
  unfold F_number_in mkFn f_number_in l_number_in_0
  simp [ll, q1, q2, lL, e, a, sz, intF_num h1 h2]
theorem numbers_in_e {l : List Int} (h0 : l ≠ []) (hl : l.length ≤ 5) (h : ∀ x ∈ l, 0 ≤ x ∧ x ≤ 9999) : F_numbers_in [.str (numsT l)] st = .ok (intsV l) st := by
  have t := (numsT_ok hl h).2
  have s : splitF (numsT l) (.str " ") = some ((l.map numT).map PV.str) := splitF_join (a := " ") (s := 32) (by decide) (by decide) (by simpa using h0) (fun x hx => by
    obtain ⟨i, hi, rfl⟩ := List.mem_map.mp hx
    exact free_num (h i hi).1 (.inl (by decide))) (by unfold numsT at t; omega) (by rw [List.length_map]; omega)
  have e := lc_yes (b := bName 1) (t := eCall F_number_in (aCons (eVar 1) aNil)) (e := [.val (.str (numsT l)), .non]) (st := st) (fun i => PV.str (numT i)) PV.int l fun i hi => ⟨[.val (.str (numsT l)), .val (.str (numT i))], by simp, by
    simp [number_in_e (st := st) (h i hi).1 (h i hi).2]⟩
  have ll : l.length ≤ LINE := Nat.le_trans hl (by decide)
  unfold F_numbers_in mkFn f_numbers_in l_numbers_in_0
  rw [List.map_map] at s
  have s : splitF (numsT l) (.str " ") = some (l.map fun i => PV.str (numT i)) := s
  simp [s, e, ll, tupF]
theorem word_e {p : Int × Int} (h : 0 ≤ p.1 ∧ p.1 ≤ 4 ∧ 1 ≤ p.2 ∧ p.2 ≤ 9999) {e0 : EV} : l_deal_in_0 [e0, .val (.str (wordT p)), .non] st = .ok [.int p.1, .int p.2] st := by
  have t1 := num_len (i := p.1) (by omega) (by omega)
  have t2 := num_len (i := p.2) (by omega) (by omega)
  have tw : (wordT p).length ≤ 9 := by
    show (numT p.1 ++ (":" : Str) ++ numT p.2).length ≤ 9
    rw [Str.length_append, Str.length_append, show (":" : Str).length = 1 by decide]
    omega
  have s : splitF (wordT p) (.str ":") = some [.str (numT p.1), .str (numT p.2)] := splitF_join (a := ":") (s := 58) (l := [numT p.1, numT p.2]) (by decide) (by decide) (by simp) (fun x hx => by
    simp only [List.mem_cons, List.not_mem_nil, or_false] at hx
    rcases hx with rfl | rfl
    · exact free_num h.1 (.inr (by decide))
    · exact free_num (by omega) (.inr (by decide))) (by unfold wordT at tw; omega) (show (2 : Nat) ≤ _ by decide)
  have n1 := number_in_e (st := st) (i := p.1) (by omega) (by omega)
  have n2 := number_in_e (st := st) (i := p.2) (by omega) (by omega)
  have l2 : (2 : Nat) ≤ LINE := by decide
  unfold l_deal_in_0
  simp [s, lcLoop, n1, n2, l2]
theorem deal_in_e (hc : CostsOk c) {d : Deal} (h : DealOk c d) : F_deal_in [.str (dealT d)] st = .ok (dealV d) st := by
  have t := (dealT_ok hc h).2
  have dl := h.len hc
  have s : splitF (dealT d) (.str " ") = some ((("deal" : Str) :: d.map wordT).map PV.str) := by
    rw [dealT_words] at t ⊢
    refine splitF_join (a := " ") (s := 32) (by decide) (by decide) (by simp) (fun x hx => ?_) (by omega) (by rw [List.length_cons, List.length_map]; omega)
    rcases List.mem_cons.mp hx with rfl | hx
    · unfold Free
      decide
    · obtain ⟨p, hp, rfl⟩ := List.mem_map.mp hx
      have q := h.price hc hp
      refine Free.join (by unfold Free; decide) fun y hy => ?_
      simp only [List.mem_cons, List.not_mem_nil, or_false] at hy
      rcases hy with rfl | rfl
      · exact free_num q.1 (.inl (by decide))
      · exact free_num (by omega) (.inl (by decide))
  have e := lc_yes (b := bName 1) (t := eB tupF (aCons (eLst l_deal_in_0) aNil)) (e := [.val (.str (dealT d)), .non, .non]) (st := st) (fun p => PV.str (wordT p)) pairV d fun p hp => ⟨[.val (.str (dealT d)), .val (.str (wordT p)), .non], by simp, by
    simp [word_e (st := st) (h.price hc hp), tupF]⟩
  have ll : d.length ≤ LINE := Nat.le_trans dl (by decide)
  have cu : slF (.lst (PV.str "deal" :: d.map (PV.str ∘ wordT))) (some 1) none = some (.lst (d.map fun p => PV.str (wordT p))) := by
    unfold slF
    dsimp only
    rw [cut1, List.tail_cons]
    rfl
  unfold F_deal_in mkFn f_deal_in l_deal_in_1
  simp [s, cu, e, ll, tupF]
theorem group_in_e {m : Nat} (hm : m ≤ 5) {g : Grp} (h : GrpOk m g) : F_group_in [.str (grpT g)] st = .ok (grpV g) st := by
  have t := (grpT_ok hm h).2
  have gl := h.len hm
  have gb : ∀ x ∈ g.2, 0 ≤ x ∧ x ≤ 9999 := fun x hx => by have := h.2.2.2.2 x hx; omega
  have e1 : grpT g = ("group " : Str) ++ (numT g.1 ++ (" of " : Str) ++ numsT g.2) := by
    show (("group " : Str) ++ numT g.1) ++ (" of " : Str) ++ numsT g.2 = _
    simp only [Str.append_assoc]
  have t2 : (numT g.1 ++ (" of " : Str) ++ numsT g.2).length ≤ 16777216 := by
    rw [e1, Str.length_append] at t
    omega
  have cu : slS (.str (grpT g)) (some 6) none = some (.str (numT g.1 ++ (" of " : Str) ++ numsT g.2)) := by
    rw [e1] at t ⊢
    exact cut_pre (by omega) (by decide)
  have l6 : lenF [.str "group "] = some (.int 6) := lenF_str (by decide)
  have pa := partF_ok (a := numT g.1) (y := " of ") (b := numsT g.2) (free_num h.1 (.inl (by decide))) (by decide) t2
  have n1 := number_in_e (st := st) (i := g.1) h.1 (by have := h.2.1; omega)
  have n2 := numbers_in_e (st := st) h.2.2.1 gl gb
  unfold F_group_in mkFn f_group_in
  have l2 : (2 : Nat) ≤ LINE := by decide
  simp [l6, cu, pa, n1, n2, l2]
end
end Q09
namespace Q09
open PySem PySem.Spec L2 PL Rc
/-! ### Receipt.read -/
section
variable {st : Sto} {c : List Int} {ds : List Deal} {gs : List Grp}
theorem free_lines (h : RcOk c ds gs) : ∀ x ∈ linesT c ds gs, Free 10 x := fun x hx => by
  have fn : ∀ {l : List Int}, (∀ x ∈ l, 0 ≤ x) → Free 10 (numsT l) := fun h => free_nums h (.inl (by decide)) (by decide)
  rcases List.mem_cons.mp hx with rfl | hx
  · exact Free.append (by unfold Free; decide) (fn fun x hx => by have := h.cok.2.2 x hx; omega)
  · rcases List.mem_append.mp hx with hx | hx
    · obtain ⟨d, hd, rfl⟩ := List.mem_map.mp hx
      refine Free.append (by unfold Free; decide) (Free.join (by unfold Free; decide) fun y hy => ?_)
      obtain ⟨p, hp, rfl⟩ := List.mem_map.mp hy
      have q := (h.dok.2 d hd).price h.cok hp
      exact (((Free.append (by unfold Free; decide) (free_num q.1 (.inl (by decide)))).append (by unfold Free; decide)).append (free_num (by omega) (.inl (by decide))))
    · obtain ⟨g, hg, rfl⟩ := List.mem_map.mp hx
      have q := h.gok.2.1 g hg
      exact (((Free.append (by unfold Free; decide) (free_num q.1 (.inl (by decide)))).append (by unfold Free; decide)).append (fn fun x hx => (q.2.2.2.2 x hx).1))
def lineV : Deal ⊕ Grp → PV
  | .inl d => .str (dealT d)
  | .inr g => .str (grpT g)
theorem starts_deal (d : Deal) : startF (dealT d) (.str "group ") = some (.bl false) := by
  have e1 : TL.tl (dealT d) = 100 :: (([101, 97, 108] : List Nat) ++ TL.tl (Str.join "" (d.map offT))) := by
    unfold dealT
    rw [TL.tl_append]
    have : TL.tl ("deal" : Str) = [100, 101, 97, 108] := by decide
    rw [this]
    rfl
  have e2 : TL.tl ("group " : Str) = 103 :: [114, 111, 117, 112, 32] := by decide
  show some (PV.bl (PySem.Txt.startswith (dealT d) "group ")) = _
  rw [starts_no e1 e2 (by decide)]
theorem starts_grp (g : Grp) : startF (grpT g) (.str "group ") = some (.bl true) := by
  have e : grpT g = ("group " : Str) ++ (numT g.1 ++ (" of " : Str) ++ numsT g.2) := by
    show (("group " : Str) ++ numT g.1) ++ (" of " : Str) ++ numsT g.2 = _
    simp only [Str.append_assoc]
  show some (PV.bl (PySem.Txt.startswith (grpT g) "group ")) = _
  rw [e, PySem.W.KT.starts_app]
theorem lines_cons : (linesT c ds gs).map PV.str = .str (("prices " : Str) ++ numsT c) :: ((ds.map Sum.inl ++ gs.map Sum.inr).map lineV) := by
  unfold linesT
  rw [List.map_cons, List.map_append, List.map_append, List.map_map, List.map_map, List.map_map, List.map_map]
  rfl
theorem filter_l (ds : List Deal) (gs : List Grp) : (ds.map (Sum.inl : Deal → Deal ⊕ Grp) ++ gs.map Sum.inr).filter (·.isLeft) = ds.map Sum.inl := by
  rw [List.filter_append, List.filter_eq_self.mpr (fun x hx => by obtain ⟨d, _, rfl⟩ := List.mem_map.mp hx; rfl), List.filter_eq_nil_iff.mpr (fun x hx => by obtain ⟨d, _, rfl⟩ := List.mem_map.mp hx; simp), List.append_nil]
theorem filter_r (ds : List Deal) (gs : List Grp) : (ds.map (Sum.inl : Deal → Deal ⊕ Grp) ++ gs.map Sum.inr).filter (·.isRight) = gs.map Sum.inr := by
  rw [List.filter_append, List.filter_eq_nil_iff.mpr (fun x hx => by obtain ⟨d, _, rfl⟩ := List.mem_map.mp hx; simp), List.filter_eq_self.mpr (fun x hx => by obtain ⟨d, _, rfl⟩ := List.mem_map.mp hx; rfl), List.nil_append]
theorem parts0 (h : RcOk c ds gs) {e0 e1 e2 e3 e4 e6 e7 : EV} {q : PV} : l_parts_in_0 [e0, .val (.lst (q :: (ds.map Sum.inl ++ gs.map Sum.inr).map lineV)), e2, e3, e4, .non, e6, e7] st = .ok (ds.map dealV) st := by
  have cu : slF (.lst (q :: (ds.map Sum.inl ++ gs.map Sum.inr).map lineV)) (some 1) none = some (.lst ((ds.map Sum.inl ++ gs.map Sum.inr).map lineV)) := by
    unfold slF
    dsimp only
    rw [cut1, List.tail_cons]
  have e := lc_map (b := bName 5) (c := tNotF (tV (eTx startF (eVar 5) (eC (.str "group "))))) (t := eCall F_deal_in (aCons (eVar 5) aNil)) (e := [e0, .val (.lst (q :: (ds.map Sum.inl ++ gs.map Sum.inr).map lineV)), e2, e3, e4, .non, e6, e7]) (st := st) lineV (·.isLeft) (fun x => match x with | .inl d => dealV d | .inr _ => .non) (ds.map Sum.inl ++ gs.map Sum.inr) fun x hx => ⟨[e0, .val (.lst (q :: (ds.map Sum.inl ++ gs.map Sum.inr).map lineV)), e2, e3, e4, .val (lineV x), e6, e7], by simp, by
    rcases List.mem_append.mp hx with hx | hx
    · obtain ⟨d, hd, rfl⟩ := List.mem_map.mp hx
      simp [lineV, starts_deal, deal_in_e (st := st) h.cok (h.dok.2 d hd)]
    · obtain ⟨g, hg, rfl⟩ := List.mem_map.mp hx
      simp [lineV, starts_grp]⟩
  rw [filter_l, List.map_map] at e
  unfold l_parts_in_0
  simp only [lLc_e, iSeq_e, eSl_e, eVar_e, List.getElem?_cons_succ, List.getElem?_cons_zero, bind_ok, oSome_e, eC_e, oNone_e, cu, of_some, wipeE_cons, wipeE_nil, List.set_cons_succ, List.set_cons_zero, e]
  rfl
theorem parts1 (h : RcOk c ds gs) {e0 e1 e2 e3 e4 e6 e7 : EV} {q : PV} : l_parts_in_1 [e0, .val (.lst (q :: (ds.map Sum.inl ++ gs.map Sum.inr).map lineV)), e2, e3, e4, .non, e6, e7] st = .ok (gs.map grpV) st := by
  have cu : slF (.lst (q :: (ds.map Sum.inl ++ gs.map Sum.inr).map lineV)) (some 1) none = some (.lst ((ds.map Sum.inl ++ gs.map Sum.inr).map lineV)) := by
    unfold slF
    dsimp only
    rw [cut1, List.tail_cons]
  have e := lc_map (b := bName 5) (c := tV (eTx startF (eVar 5) (eC (.str "group ")))) (t := eCall F_group_in (aCons (eVar 5) aNil)) (e := [e0, .val (.lst (q :: (ds.map Sum.inl ++ gs.map Sum.inr).map lineV)), e2, e3, e4, .non, e6, e7]) (st := st) lineV (·.isRight) (fun x => match x with | .inl _ => .non | .inr g => grpV g) (ds.map Sum.inl ++ gs.map Sum.inr) fun x hx => ⟨[e0, .val (.lst (q :: (ds.map Sum.inl ++ gs.map Sum.inr).map lineV)), e2, e3, e4, .val (lineV x), e6, e7], by simp, by
    rcases List.mem_append.mp hx with hx | hx
    · obtain ⟨d, hd, rfl⟩ := List.mem_map.mp hx
      simp [lineV, starts_deal]
    · obtain ⟨g, hg, rfl⟩ := List.mem_map.mp hx
      simp [lineV, starts_grp, group_in_e (st := st) h.dok.1 (h.gok.2.1 g hg)]⟩
  rw [filter_r, List.map_map] at e
  unfold l_parts_in_1
  simp only [lLc_e, iSeq_e, eSl_e, eVar_e, List.getElem?_cons_succ, List.getElem?_cons_zero, bind_ok, oSome_e, eC_e, oNone_e, cu, of_some, wipeE_cons, wipeE_nil, List.set_cons_succ, List.set_cons_zero, e]
  rfl
theorem parts2 (h : RcOk c ds gs) {e0 e1 e2 e4 e5 : EV} : ∃ m, l_parts_in_2 [e0, e1, e2, .val (dealsV ds), e4, e5, .non, .non] st = .ok (List.replicate m (.bl true)) st := by
  obtain ⟨m, e, hm⟩ := lc2_bl (b := bName 6) (vs1 := [7]) (it1 := iSeq (eVar 6)) (b1 := bName 7) (t := eOp eqF (eB lenF (aCons (eVar 7) aNil)) (eC (.int 2))) (e := [e0, e1, e2, .val (dealsV ds), e4, e5, .non, .non]) (st := st) dealV 5 ds fun d hd => by
    have i := lc_yes (b := bName 7) (t := eOp eqF (eB lenF (aCons (eVar 7) aNil)) (eC (.int 2))) (e := [e0, e1, e2, .val (dealsV ds), e4, e5, .val (dealV d), .non]) (st := st) pairV (fun _ => .bl true) d fun p hp => ⟨[e0, e1, e2, .val (dealsV ds), e4, e5, .val (dealV d), .val (pairV p)], by simp, by simp⟩
    rw [List.map_const'] at i
    exact ⟨[e0, e1, e2, .val (dealsV ds), e4, e5, .val (dealV d), .non], d.map pairV, d.length, by simp, by simp, by simpa using i, (h.dok.2 d hd).len h.cok⟩
  refine ⟨m, ?_⟩
  have hl : m ≤ LINE := by
    have := h.dok.1
    have : LINE = 16777216 := rfl
    omega
  unfold l_parts_in_2
  simp [e, hl]
theorem parts_in_e (h : RcOk c ds gs) : F_parts_in [.str (textT c ds gs)] st = .ok (.tup [intsV c, dealsV ds, grpsV gs]) st := by
  have t := (text_ok h).2
  have p0 : ∀ x ∈ c, 0 ≤ x ∧ x ≤ 9999 := fun x hx => by have := h.cok.2.2 x hx; omega
  have c0 : c ≠ [] := fun z => by have := h.cok.1; rw [z] at this; simp at this
  have en : endF (textT c ds gs) (.str "\n") = some (.bl true) := by
    show some (PV.bl (PySem.Txt.endswith (textT c ds gs) "\n")) = _
    unfold textT
    rw [PySem.W.KT.ends_app]
  have cu : slS (.str (textT c ds gs)) none (some (-1)) = some (.str (Str.join "\n" (linesT c ds gs))) := cut_nl (by decide) (by unfold textT at t; omega)
  have sp : splitF (Str.join "\n" (linesT c ds gs)) (.str "\n") = some (.str (("prices " : Str) ++ numsT c) :: ((ds.map Sum.inl ++ gs.map Sum.inr).map lineV)) := by
    rw [← lines_cons]
    refine splitF_join (a := "\n") (s := 10) (by decide) (by decide) (by unfold linesT; simp) (free_lines h) ?_ (by have := (lines_ok h).2; omega)
    unfold textT at t
    rw [Str.length_append] at t
    omega
  have l7 : lenF [.str "prices "] = some (.int 7) := lenF_str (by decide)
  have ap := (lines_ok h).1 (("prices " : Str) ++ numsT c) (by unfold linesT; simp)
  have cp : slS (.str (("prices " : Str) ++ numsT c)) (some 7) none = some (.str (numsT c)) := cut_pre (by have := ap.2; omega) (by decide)
  have n1 := numbers_in_e (st := st) c0 h.cok.2.1 p0
  have le := lines_e (st := st) h
  rw [lines_cons] at le
  have ne : neF (.lst (.str (("prices " : Str) ++ numsT c) :: ((ds.map Sum.inl ++ gs.map Sum.inr).map lineV))) (.lst (.str (("prices " : Str) ++ numsT c) :: ((ds.map Sum.inl ++ gs.map Sum.inr).map lineV))) = some (.bl false) := by
    have s : Sm 1 1595 (.lst ((linesT c ds gs).map PV.str)) := sm_lst (lines_ok h).2 fun x hx => sm_str ((lines_ok h).1 x hx)
    rw [lines_cons] at s
    exact neF_sm s.1 (Nat.le_trans s.2.1 (by decide))
  obtain ⟨m, e2⟩ := parts2 (st := st) h (e0 := .val (.str (textT c ds gs))) (e1 := .val (.lst (.str (("prices " : Str) ++ numsT c) :: ((ds.map Sum.inl ++ gs.map Sum.inr).map lineV)))) (e2 := .val (intsV c)) (e4 := .val (grpsV gs)) (e5 := .non)
  have e0 := parts0 (st := st) h (e0 := .val (.str (textT c ds gs))) (e1 := .non) (e2 := .val (intsV c)) (e3 := .non) (e4 := .non) (e6 := .non) (e7 := .non) (q := .str (("prices " : Str) ++ numsT c))
  have e1 := parts1 (st := st) h (e0 := .val (.str (textT c ds gs))) (e1 := .non) (e2 := .val (intsV c)) (e3 := .val (dealsV ds)) (e4 := .non) (e6 := .non) (e7 := .non) (q := .str (("prices " : Str) ++ numsT c))
  have l3 : (3 : Nat) ≤ LINE := by decide
  have i0 : atI (.str (("prices " : Str) ++ numsT c) :: ((ds.map Sum.inl ++ gs.map Sum.inr).map lineV)) 0 = some (.str (("prices " : Str) ++ numsT c)) := atI_nat (i := 0) (by simp)
  obtain ⟨L, hL⟩ : ∃ L, L = PV.str (("prices " : Str) ++ numsT c) :: ((ds.map Sum.inl ++ gs.map Sum.inr).map lineV) := ⟨_, rfl⟩
  rw [← hL] at sp le ne e2 e0 e1 i0
  have ib : isiB Ty.str (PV.str (textT c ds gs)) = some true := rfl
  have ng : negF (PV.int 1) = some (PV.int (-1)) := rfl
  unfold F_parts_in mkFn f_parts_in
  simp [isiF, ib, ng, en, cu, sp, i0, l7, cp, n1, e0, e1, e2, tupF, allF_rep, le, ne, l3]
end
end Q09
namespace Q09
open PySem PySem.Spec L2 PL Rc
/-! ### receipts are right -/
section
variable {st : Sto} {c : List Int} {ds : List Deal} {gs : List Grp}
theorem sum_le : ∀ {l : List Int}, (∀ x ∈ l, 1 ≤ x ∧ x ≤ 9999) → 0 ≤ l.sum ∧ l.sum ≤ 9999 * l.length
  | [], _ => by simp
  | x :: l, h => by
    have h1 := h x List.mem_cons_self
    have h2 := sum_le (l := l) fun y hy => h y (List.mem_cons_of_mem _ hy)
    rw [List.sum_cons, List.length_cons]
    omega
theorem sm_due (h : RcOk c ds gs) : Sm 4 14567 (dueV c ds gs) := by
  have s := sum_le h.cok.2.2
  have h5 := h.cok.2.1
  have d5 := h.dok.1
  have g5 := h.gok.1
  refine sm_tupI (d := 3) (w := 2080) (n := 7) (Nat.le_refl _) fun x hx => ?_
  simp only [List.mem_cons, List.not_mem_nil, or_false] at hx
  rcases hx with rfl | rfl | rfl | rfl | rfl | rfl | rfl
  · exact (sm_intsV h.cok.2.1 fun x hx => by have := h.cok.2.2 x hx; omega).mono (by decide) (by decide)
  · exact sm_deals h.cok h.dok
  · exact (sm_grps h.dok.1 h.gok).mono (by decide) (by decide)
  · exact (sm_int (by omega) (by omega)).mono (by decide) (by decide)
  · exact (sm_int (by omega) (by omega)).mono (by decide) (by decide)
  · exact (sm_str (name_ok (by omega) (by omega) (by omega))).mono (by decide) (by decide)
  · exact (sm_str (text_ok h)).mono (by decide) (by decide)
theorem eqF_str (x : Str) : eqF (.str x) (.str x) = some (.bl true) := by
  show some (PV.bl (decide (x = x))) = _
  simp
theorem same_e {p : PV} (h : ∃ x, reprF [p] = some (.str x)) : F__law_same [p, p] st = .ok (.bl true) st := by
  obtain ⟨x, e⟩ := h
  unfold F__law_same mkFn f__law_same
  simp [e, eqF_str]
theorem isOwn_rc : isOwn [("Receipt", true)] st (rcV c ds gs) = some true := by
  unfold isOwn insF
  dsimp only
  simp [List.lookup]
theorem addF_lst {l m : List PV} (h : l.length + m.length ≤ 16777216) : addF (.lst l) (.lst m) = some (.lst (l ++ m)) := by
  unfold addF
  dsimp only
  rw [if_pos (show l.length + m.length ≤ LINE from h)]
end
end Q09
namespace Q09
open PySem PySem.Spec L2 PL Rc
/-! ### drawn -/
section
variable {n : Nat}
/-- a deal's turns -/
theorem deal_loop {c : List Int} (hc : CostsOk c) {most : Int} (hm : 1 ≤ most) (hm2 : most ≤ 9999) : ∀ (rest pre : List Int) (st : Sto) (m : Nat) (d : Deal) (x4 x5 : EV), c = pre ++ rest → PenAt st n m → m + 2 * rest.length ≤ 900000 →
    (∀ p ∈ d, 0 ≤ p.1 ∧ p.1 < pre.length ∧ 1 ≤ p.2 ∧ ∃ x, c[p.1.toNat]? = some x ∧ p.2 ≤ x) → Rises (d.map (·.1)) → d.length ≤ pre.length →
    ∃ d' st' y4 y5, forLoop (bTup ((bName 4) :: ((bName 5) :: []))) t__law_deal_0 (enumF pre.length (rest.map PV.int)) [.val (.gl n), .val (intsV c), .val (.int most), .own (d.map pairV), x4, x5] st = .nx [.val (.gl n), .val (intsV c), .val (.int most), .own (d'.map pairV), y4, y5] st' ∧ DealOk c d' ∧ d'.length ≤ c.length ∧ PenAt st' n (m + 2 * rest.length) ∧ Same n st st'
  | [], pre, st, m, d, x4, x5, hp, P, _, h1, h2, h3 => by
    rw [List.append_nil] at hp
    subst hp
    exact ⟨d, st, x4, x5, rfl, ⟨h1, h2⟩, h3, P, .refl⟩
  | x :: rest, pre, st, m, d, x4, x5, hp, P, hk, h1, h2, h3 => by
    rw [List.length_cons] at hk
    have hx : c[pre.length]? = some x := by rw [hp]; simp
    have hxb := hc.2.2 x (List.mem_of_getElem? hx)
    have hp' : c = (pre ++ [x]) ++ rest := by rw [hp]; simp
    have c5 := hc.2.1
    have pl : pre.length < 5 := by rw [hp, List.length_append, List.length_cons] at c5; omega
    obtain ⟨a, s1, e1, a0, a1, P1, S1⟩ := draw_spec (k := 3) P (by omega) (by decide) (by decide)
    have en : enumF pre.length ((x :: rest).map PV.int) = .tup [.int (pre.length : Int), .int x] :: enumF (pre ++ [x]).length (rest.map PV.int) := by
      rw [List.length_append]
      rfl
    have step : ∀ (d2 : Deal) (s2 : Sto) (k2 : Nat), PenAt s2 n k2 → k2 ≤ m + 2 → Same n st s2 → (∀ p ∈ d2, 0 ≤ p.1 ∧ p.1 < (pre ++ [x]).length ∧ 1 ≤ p.2 ∧ ∃ x, c[p.1.toNat]? = some x ∧ p.2 ≤ x) → Rises (d2.map (·.1)) → d2.length ≤ (pre ++ [x]).length →
        t__law_deal_0 [.val (.gl n), .val (intsV c), .val (.int most), .own (d.map pairV), .val (.int (pre.length : Int)), .val (.int x)] st = .nx [.val (.gl n), .val (intsV c), .val (.int most), .own (d2.map pairV), .val (.int (pre.length : Int)), .val (.int x)] s2 →
        ∃ d' st' y4 y5, forLoop (bTup ((bName 4) :: ((bName 5) :: []))) t__law_deal_0 (enumF pre.length ((x :: rest).map PV.int)) [.val (.gl n), .val (intsV c), .val (.int most), .own (d.map pairV), x4, x5] st = .nx [.val (.gl n), .val (intsV c), .val (.int most), .own (d'.map pairV), y4, y5] st' ∧ DealOk c d' ∧ d'.length ≤ c.length ∧ PenAt st' n (m + 2 * (rest.length + 1)) ∧ Same n st st' := by
      intro d2 s2 k2 P2 hk2 S2 q1 q2 q3 ht
      obtain ⟨d', st', y4, y5, f1, f2, f3, f4, f5⟩ := deal_loop hc hm hm2 rest (pre ++ [x]) s2 (m + 2) d2 (.val (.int (pre.length : Int))) (.val (.int x)) hp' (P2.mono hk2) (by omega) q1 q2 q3
      refine ⟨d', st', y4, y5, ?_, f2, f3, f4.mono (by omega), S2.trans f5⟩
      rw [en, forLoop_nx (by simp) ht]
      exact f1
    by_cases ha : 0 < a
    · have hmin : minF [.int x, .int most] = some (.int (if most < x then most else x)) := rfl
      obtain ⟨b, s2, e2, b0, b1, P2, S2⟩ := draw_spec (k := if most < x then most else x) P1 (by omega) (by split <;> omega) (by split <;> omega)
      have bx : 1 + b ≤ x := by split at b1 <;> omega
      refine step (d ++ [((pre.length : Int), 1 + b)]) s2 _ P2 (by omega) (S1.trans S2) (fun p hq => ?_) ?_ (by rw [List.length_append, List.length_append]; simp; exact h3) ?_
      · rcases List.mem_append.mp hq with hq | hq
        · obtain ⟨k1, k2, k3⟩ := h1 p hq
          exact ⟨k1, by rw [List.length_append]; simp; omega, k3⟩
        · rw [List.mem_singleton.mp hq]
          exact ⟨by simp, by simp; omega, by show (1:Int) ≤ 1 + b; omega, x, by simpa using hx, bx⟩
      · unfold Rises
        rw [List.map_append]
        refine List.pairwise_append.mpr ⟨h2, List.pairwise_singleton _ _, fun y hy z hz => ?_⟩
        obtain ⟨p, hq, rfl⟩ := List.mem_map.mp hy
        have := (h1 p hq).2.1
        have ez : z = (pre.length : Int) := by simpa using hz
        rw [ez]
        exact this
      · have l2 : (2 : Nat) ≤ LINE := by decide
        have hd : d.length < LINE := by show d.length < 16777216; omega
        unfold t__law_deal_0
        simp [e1, ha, hmin, e2, l2, hd]
    · refine step d s1 _ P1 (by omega) S1 (fun p hq => ?_) h2 (by rw [List.length_append]; omega) ?_
      · obtain ⟨k1, k2, k3⟩ := h1 p hq
        exact ⟨k1, by rw [List.length_append]; simp; omega, k3⟩
      · unfold t__law_deal_0
        simp [e1, ha]
theorem deal_spec {c : List Int} (hc : CostsOk c) {most : Int} (hm : 1 ≤ most) (hm2 : most ≤ 9999) {st : Sto} {m : Nat} (P : PenAt st n m) (hk : m ≤ 800000) :
    ∃ d st', F__law_deal [.gl n, intsV c, .int most] st = .ok (dealV d) st' ∧ DealOk c d ∧ PenAt st' n (m + 10) ∧ Same n st st' := by
  have c5 := hc.2.1
  obtain ⟨d, st', y4, y5, e, f2, f3, f4, f5⟩ := deal_loop hc hm hm2 c [] st m [] .non .non rfl P (by omega) (by simp) .nil (by simp)
  have l0 : (0 : Nat) ≤ LINE := by decide
  refine ⟨d, st', ?_, f2, f4.mono (by omega), f5⟩
  simp only [List.map_nil, List.length_nil] at e
  unfold F__law_deal mkFn f__law_deal w__law_deal_0
  simp [l0, e, tupF]
/-- mixed -/
theorem mix_loop {α : Type} (v : α → PV) {l : List α} {T : PV} : ∀ (items : List PV) (R D : List α) (st : Sto) (m : Nat) (x4 : EV), PenAt st n m → m + items.length ≤ 900000 → R.length = items.length → (D ++ R).Perm l → l.length ≤ 1000 →
    ∃ (D' : List α) (st' : Sto) (y4 : EV), forLoop (bName 4) t__law_mixed_0 items [.val (.gl n), .val T, .own (R.map v), .own (D.map v), x4] st = .nx [.val (.gl n), .val T, .own [], .own (D'.map v), y4] st' ∧ D'.Perm l ∧ PenAt st' n (m + items.length) ∧ Same n st st'
  | [], R, D, st, m, x4, P, _, hR, hp, _ => by
    have e : R = [] := List.eq_nil_of_length_eq_zero hR
    subst e
    rw [List.append_nil] at hp
    exact ⟨D, st, x4, rfl, hp, P, .refl⟩
  | x :: items, R, D, st, m, x4, P, hk, hR, hp, hl => by
    rw [List.length_cons] at hk hR
    have hRl : R.length ≤ l.length := by rw [← hp.length_eq, List.length_append]; omega
    have hDl : D.length ≤ l.length := by rw [← hp.length_eq, List.length_append]; omega
    obtain ⟨a, s1, e1, a0, a1, P1, S1⟩ := draw_spec (k := (R.length : Int)) P (by omega) (by omega) (by omega)
    obtain ⟨y, r, q1, q2, q3⟩ := popAt_map v a0 a1
    have hp2 : ((D ++ [y]) ++ r).Perm l := by
      refine List.Perm.trans ?_ hp
      rw [List.append_assoc]
      exact List.Perm.append_left D q2
    obtain ⟨D', st', y4, f1, f2, f3, f4⟩ := mix_loop v items r (D ++ [y]) s1 (m + 1) (.val x) P1 (by omega) (by omega) hp2 hl
    refine ⟨D', st', y4, ?_, f2, f3.mono (by rw [List.length_cons]; omega), S1.trans f4⟩
    have hd : (D.map v).length < LINE := by rw [List.length_map]; show D.length < 16777216; omega
    have ht : t__law_mixed_0 [.val (.gl n), .val T, .own (R.map v), .own (D.map v), .val x] st = .nx [.val (.gl n), .val T, .own (r.map v), .own ((D ++ [y]).map v), .val x] s1 := by
      have hd2 : D.length < LINE := by rwa [List.length_map] at hd
      unfold t__law_mixed_0
      simp [e1, q1, hd2]
    rw [forLoop_nx (by simp) ht]
    exact f1
theorem mixed_spec {α : Type} (v : α → PV) {l : List α} {st : Sto} {m : Nat} (P : PenAt st n m) (hk : m ≤ 800000) (hl : l.length ≤ 1000) :
    ∃ (l' : List α) (st' : Sto), F__law_mixed [.gl n, .lst (l.map v)] st = .ok (.lst (l'.map v)) st' ∧ l'.Perm l ∧ PenAt st' n (m + l.length) ∧ Same n st st' := by
  have hr : (rangeF 0 l.length).length = l.length := rangeF_len ..
  obtain ⟨l', st', y4, f1, f2, f3, f4⟩ := mix_loop v (T := .lst (l.map v)) (rangeF 0 l.length) l [] st m .non P (by rw [hr]; omega) hr.symm (by simp) hl
  rw [hr] at f3
  refine ⟨l', st', ?_, f2, f3, f4⟩
  have l0 : (0 : Nat) ≤ LINE := by decide
  have r : -(LINE : Int) ≤ (l.length : Int) ∧ (l.length : Int) ≤ LINE := by
    have : (LINE : Int) = 16777216 := rfl
    omega
  simp only [List.map_nil] at f1
  unfold F__law_mixed mkFn f__law_mixed w__law_mixed_0
  simp [listF, l0, r, f1]
end

/-! ### nested groups -/
section
variable {n b : Nat}
theorem glBs_ivs : ∀ (l : List (List Int)) (k : Nat), glBs k (l.map intsV) = true
  | [], _ => by unfold List.map glBs; rfl
  | a :: l, k => by
    rw [List.map_cons]
    unfold glBs
    rw [glBs_ivs l k, Bool.and_true]
    unfold glB
    exact glBs_ints a k
theorem PenAt.setB {st : Sto} {m : Nat} {l : List PV} (P : PenAt st n m) (hb : b ≠ n) (hl : glBs 0 l = true) : PenAt (st.set b (.lst l)) n m := by
  obtain ⟨⟨a, x, y, h1, h2⟩, hc⟩ := P
  exact ⟨⟨a, x, y, by rw [List.getElem?_set_ne hb]; exact h1, h2⟩, hc.set hl⟩
theorem pop_loop {x1 x3 x4 x5 x6 x7 x8 x9 x11 : EV} (hb : b ≠ n) : ∀ (items : List PV) (B : List (List Int)) (st : Sto) (m : Nat), PenAt st n m → m + items.length ≤ 900000 → st[b]? = some (.lst (B.map intsV)) → items.length ≤ B.length → B.length ≤ 1000 →
    ∃ (S R : List (List Int)) (st' : Sto), lcLoop (bName 10) tYesF (ePopG (eVar 2) (eCall F__law_draw (aCons (eVar 0) (aCons (eLenG (eVar 2)) aNil)))) [.val (.gl n), x1, .val (.gl b), x3, x4, x5, x6, x7, x8, x9, .non, x11] items st = .ok (S.map intsV) st' ∧ (S ++ R).Perm B ∧ S.length = items.length ∧ st'[b]? = some (.lst (R.map intsV)) ∧ PenAt st' n (m + items.length)
  | [], B, st, m, P, _, hB, _, _ => ⟨[], B, st, rfl, List.Perm.refl _, rfl, hB, P⟩
  | x :: items, B, st, m, P, hk, hB, hi, hl => by
    rw [List.length_cons] at hk hi
    obtain ⟨a, s1, e1, a0, a1, P1, S1⟩ := draw_spec (k := (B.length : Int)) P (by omega) (by omega) (by omega)
    have hB1 : s1[b]? = some (.lst (B.map intsV)) := by rw [S1.2 b hb]; exact hB
    obtain ⟨y, r, q1, q2, q3⟩ := popAt_map intsV a0 a1
    have bl : b < s1.length := (List.getElem?_eq_some_iff.mp hB1).1
    obtain ⟨S, R, st', f1, f2, f3, f4, f5⟩ := pop_loop hb items r (s1.set b (.lst (r.map intsV))) (m + 1) (P1.setB hb (glBs_ivs r 0)) (by omega) (by rw [List.getElem?_set_self bl]) (by omega) (by omega)
    refine ⟨y :: S, R, st', ?_, (f2.cons y).trans q2, by rw [List.length_cons, List.length_cons, f3], f4, f5.mono (by rw [List.length_cons]; omega)⟩
    have ht : ePopG (eVar 2) (eCall F__law_draw (aCons (eVar 0) (aCons (eLenG (eVar 2)) aNil))) [.val (.gl n), x1, .val (.gl b), x3, x4, x5, x6, x7, x8, x9, .val x, x11] st = .ok (intsV y) (s1.set b (.lst (r.map intsV))) := by
      simp [lstAt_gl hB, lstAt_gl hB1, e1, q1]
    exact lcLoop_ok (by simp) ht f1
theorem wide_loop {x0 x1 x2 x3 x4 x5 x6 x9 x10 x11 : EV} {st : Sto} : ∀ (S : List (List Int)) (W : List Int) (x8 : EV), W.length + S.flatten.length ≤ 1000 →
    ∃ y8, forLoop (bName 8) t__law_groups_0 (S.map intsV) [x0, x1, x2, x3, x4, x5, x6, .val (intsV W), x8, x9, x10, x11] st = .nx [x0, x1, x2, x3, x4, x5, x6, .val (intsV (W ++ S.flatten)), y8, x9, x10, x11] st
  | [], W, x8, _ => ⟨x8, by rw [List.flatten_nil, List.append_nil]; rfl⟩
  | s :: S, W, x8, h => by
    rw [List.flatten_cons, List.length_append] at h
    obtain ⟨y8, f⟩ := wide_loop (x0 := x0) (x1 := x1) (x2 := x2) (x3 := x3) (x4 := x4) (x5 := x5) (x6 := x6) (x9 := x9) (x10 := x10) (x11 := x11) (st := st) S (W ++ s) (.val (intsV s)) (by rw [List.length_append]; omega)
    have ad : addF (intsV W) (intsV s) = some (intsV (W ++ s)) := by
      have := addF_tup (l := W.map PV.int) (m := s.map PV.int) (by rw [List.length_map, List.length_map]; omega)
      rw [← List.map_append] at this
      exact this
    have ht : t__law_groups_0 [x0, x1, x2, x3, x4, x5, x6, .val (intsV W), .val (intsV s), x9, x10, x11] st = .nx [x0, x1, x2, x3, x4, x5, x6, .val (intsV (W ++ s)), .val (intsV s), x9, x10, x11] st := by
      unfold t__law_groups_0
      simp [ad]
    refine ⟨y8, ?_⟩
    rw [List.map_cons, forLoop_nx (by simp) ht, f, List.flatten_cons, List.append_assoc]
theorem grp_turn (hb : b ≠ n) {many : Nat} (hm : many ≤ 5) {B : List (List Int)} {G : List Grp} {st : Sto} {m : Nat} {x4 x5 x6 x7 x8 x9 x10 x11 : EV} (P : PenAt st n m) (hk : m ≤ 800000) (hB : st[b]? = some (.lst (B.map intsV))) (hl : B.length ≤ 5) (bo : Blocks many B) (go : Over many B G) (gl : G.length ≤ 100) :
    ∃ (B' : List (List Int)) (G' : List Grp) (st' : Sto) (y5 y6 y7 y8 y9 y10 y11 : EV), t__law_groups_1 [.val (.gl n), .val (.int (many : Int)), .val (.gl b), .own (G.map grpV), x4, x5, x6, x7, x8, x9, x10, x11] st = .nx [.val (.gl n), .val (.int (many : Int)), .val (.gl b), .own (G'.map grpV), x4, y5, y6, y7, y8, y9, y10, y11] st' ∧
      PenAt st' n (m + 10) ∧ st'[b]? = some (.lst (B'.map intsV)) ∧ B'.length ≤ 5 ∧ Blocks many B' ∧ Over many B' G' ∧ G'.length ≤ G.length + 1 := by
  obtain ⟨a, s1, e1, a0, a1, P1, S1⟩ := draw_spec (k := 3) P (by omega) (by decide) (by decide)
  have hB1 : s1[b]? = some (.lst (B.map intsV)) := by rw [S1.2 b hb]; exact hB
  have hmin : minF [.int (B.length : Int), .int (1 + a)] = some (.int (if 1 + a < (B.length : Int) then 1 + a else (B.length : Int))) := rfl
  generalize hsz : (if 1 + a < (B.length : Int) then 1 + a else (B.length : Int)) = sz at hmin
  have z1 : sz ≤ B.length := by rw [← hsz]; split <;> omega
  have z0 : 0 ≤ sz := by rw [← hsz]; split <;> omega
  have z3 : sz ≤ 3 := by rw [← hsz]; split <;> omega
  by_cases hz : 0 < sz
  · have hr : (rangeF 0 sz.toNat).length = sz.toNat := rangeF_len ..
    have rng : -(LINE : Int) ≤ sz ∧ sz ≤ LINE := by
      have : (LINE : Int) = 16777216 := rfl
      omega
    obtain ⟨S, R, s2, f1, f2, f3, f4, P2⟩ := pop_loop (x1 := .val (.int (many : Int))) (x3 := .own (G.map grpV)) (x4 := x4) (x5 := .val (.int sz)) (x6 := x6) (x7 := x7) (x8 := x8) (x9 := x9) (x11 := x11) hb (rangeF 0 sz.toNat) B s1 (m + 1) P1 (by rw [hr]; omega) hB1 (by rw [hr]; omega) (by omega)
    rw [hr] at f3 P2
    have hS : S ≠ [] := fun e => by rw [e] at f3; simp at f3; omega
    have bo2 := bo.perm f2
    have go2 := go.perm f2
    obtain ⟨b3, up⟩ := join_blocks bo2 hS
    have wl : (isort S.flatten).length ≤ 5 := by
      have := rises_le (lo := 0) (m := (many : Int)) up (b3.lt _ (by simp))
      omega
    have fl : S.flatten.length ≤ 5 := by rw [← (isort_perm S.flatten).length_eq]; exact wl
    obtain ⟨y8, g1⟩ := wide_loop (x0 := .val (.gl n)) (x1 := .val (.int (many : Int))) (x2 := .val (.gl b)) (x3 := .own (G.map grpV)) (x4 := x4) (x5 := .val (.int sz)) (x6 := .val (.lst (S.map intsV))) (x9 := x9) (x10 := x10) (x11 := x11) (st := s2) S [] x8 (by rw [List.length_nil]; omega)
    rw [List.nil_append, show intsV ([] : List Int) = PV.tup [] from rfl] at g1
    have bl : b < s2.length := (List.getElem?_eq_some_iff.mp f4).1
    have so := sortedF_ints S.flatten
    have rl : R.length ≤ 5 := by have := f2.length_eq; rw [List.length_append] at this; omega
    have rl2 : R.length < LINE := by show R.length < 16777216; omega
    have mp : R.map intsV ++ [intsV (isort S.flatten)] = (R ++ [isort S.flatten]).map intsV := by simp
    have l0 : (0 : Nat) ≤ LINE := by decide
    have l2 : (2 : Nat) ≤ LINE := by decide
    obtain ⟨s3, hs3⟩ : ∃ s3 : Sto, s2.set b (.lst (R.map intsV ++ [intsV (isort S.flatten)])) = s3 := ⟨_, rfl⟩
    have P3 : PenAt s3 n (m + 1 + sz.toNat) := by
      rw [← hs3, mp]
      exact P2.setB hb (glBs_ivs _ 0)
    have hB3 : s3[b]? = some (.lst ((R ++ [isort S.flatten]).map intsV)) := by
      rw [← hs3, mp]
      exact List.getElem?_set_self bl
    have nl : (R ++ [isort S.flatten]).length ≤ 5 := by
      have := f2.length_eq
      rw [List.length_append] at this ⊢
      have : 0 < S.length := List.length_pos_iff.mpr hS
      simp only [List.length_singleton]
      omega
    have c2 := lc_yes (b := bName 11) (t := eIx (eVar 11) (eC (.int 1))) (e := [.val (.gl n), .val (.int (many : Int)), .val (.gl b), .own (G.map grpV), x4, .val (.int sz), .val (.lst (S.map intsV)), .val (intsV (isort S.flatten)), y8, x9, x10, .non]) (st := s3) grpV (fun g => intsV g.2) G fun g hg => ⟨[.val (.gl n), .val (.int (many : Int)), .val (.gl b), .own (G.map grpV), x4, .val (.int sz), .val (.lst (S.map intsV)), .val (intsV (isort S.flatten)), y8, x9, x10, .val (grpV g)], by simp, by simp [atp1]⟩
    have ni := notin_ivs (isort S.flatten) (G.map (·.2))
    rw [List.map_map] at ni
    have ni : inD (fun b => !b) (intsV (isort S.flatten)) (.lst (G.map fun g => intsV g.2)) = some (.bl (!decide (isort S.flatten ∈ G.map (·.2)))) := ni
    have tS : tupF [.lst ((isort S.flatten).map PV.int)] = some (intsV (isort S.flatten)) := rfl
    by_cases hin : isort S.flatten ∈ G.map (·.2)
    · rw [decide_eq_true hin] at ni
      refine ⟨R ++ [isort S.flatten], G, s3, .val (.int sz), .val (.lst (S.map intsV)), .val (intsV (isort S.flatten)), y8, x9, x10, x11, ?_, P3.mono (by omega), hB3, nl, b3, join_over bo2 go2, by omega⟩
      unfold t__law_groups_1 w__law_groups_0 l__law_groups_1 l__law_groups_2
      simp [lstAt_gl hB, lstAt_gl hB1, e1, hmin, hz, rng, f1, l0, g1, so, tS, lstAt_gl f4, rl2, hs3, c2, ni]
    · rw [decide_eq_false hin] at ni
      obtain ⟨k, s4, e4, k0, k1, P4, S4⟩ := draw_spec (k := ((isort S.flatten).length : Int) + 1) P3 (by omega) (by omega) (by omega)
      have gl2 : G.length < LINE := by show G.length < 16777216; omega
      refine ⟨R ++ [isort S.flatten], G ++ [(k, isort S.flatten)], s4, .val (.int sz), .val (.lst (S.map intsV)), .val (intsV (isort S.flatten)), y8, x9, x10, x11, ?_, P4.mono (by omega), by rw [S4.2 b hb]; exact hB3, nl, b3, join_new bo2 hS go2 (fun g hg e => hin (List.mem_map.mpr ⟨g, hg, e⟩)) ⟨k0, by omega⟩, by rw [List.length_append]; simp⟩
      unfold t__law_groups_1 w__law_groups_0 l__law_groups_1 l__law_groups_2
      simp [lstAt_gl hB, lstAt_gl hB1, e1, hmin, hz, rng, f1, l0, g1, so, tS, lstAt_gl f4, rl2, hs3, c2, ni, e4, l2, gl2]
  · have e0 : sz = 0 := by omega
    refine ⟨B, G, s1, .val (.int sz), x6, x7, x8, x9, x10, x11, ?_, P1.mono (by omega), hB1, hl, bo, go, by omega⟩
    unfold t__law_groups_1
    simp [lstAt_gl hB, lstAt_gl hB1, e1, hmin, hz]
end
end Q09
namespace Q09
open PySem PySem.Spec L2 PL Rc
/-! ### receipts, drawn -/
section
variable {n b : Nat}
theorem grp_loop (hb : b ≠ n) {many : Nat} (hm : many ≤ 5) : ∀ (items : List PV) (B : List (List Int)) (G : List Grp) (st : Sto) (m : Nat) (x4 x5 x6 x7 x8 x9 x10 x11 : EV), PenAt st n m → m + 10 * items.length ≤ 700000 → st[b]? = some (.lst (B.map intsV)) → B.length ≤ 5 → Blocks many B → Over many B G → G.length + items.length ≤ 50 →
    ∃ (B' : List (List Int)) (G' : List Grp) (st' : Sto) (y4 y5 y6 y7 y8 y9 y10 y11 : EV), forLoop (bName 4) t__law_groups_1 items [.val (.gl n), .val (.int (many : Int)), .val (.gl b), .own (G.map grpV), x4, x5, x6, x7, x8, x9, x10, x11] st = .nx [.val (.gl n), .val (.int (many : Int)), .val (.gl b), .own (G'.map grpV), y4, y5, y6, y7, y8, y9, y10, y11] st' ∧
      PenAt st' n (m + 10 * items.length) ∧ Over many B' G' ∧ G'.length ≤ G.length + items.length
  | [], B, G, st, m, x4, x5, x6, x7, x8, x9, x10, x11, P, _, _, _, _, go, _ => ⟨B, G, st, x4, x5, x6, x7, x8, x9, x10, x11, rfl, P, go, by simp⟩
  | x :: items, B, G, st, m, x4, x5, x6, x7, x8, x9, x10, x11, P, hk, hB, hl, bo, go, hG => by
    rw [List.length_cons] at hk hG
    obtain ⟨B1, G1, s1, y5, y6, y7, y8, y9, y10, y11, e1, P1, q1, q2, q3, q4, q5⟩ := grp_turn (x4 := .val x) (x5 := x5) (x6 := x6) (x7 := x7) (x8 := x8) (x9 := x9) (x10 := x10) (x11 := x11) hb hm P (by omega) hB hl bo go (by omega)
    obtain ⟨B2, G2, s2, z4, z5, z6, z7, z8, z9, z10, z11, f1, f2, f3, f4⟩ := grp_loop hb hm items B1 G1 s1 (m + 10) (.val x) y5 y6 y7 y8 y9 y10 y11 P1 (by omega) q1 q2 q3 q4 (by omega)
    refine ⟨B2, G2, s2, z4, z5, z6, z7, z8, z9, z10, z11, ?_, f2.mono (by rw [List.length_cons]; omega), f3, by rw [List.length_cons]; omega⟩
    rw [forLoop_nx (by simp) e1]
    exact f1
theorem PenAt.push {st : Sto} {m : Nat} {l : List PV} (P : PenAt st n m) (hl : glBs 0 l = true) : PenAt (st ++ [.lst l]) n m := by
  obtain ⟨⟨a, x, y, h1, h2⟩, hc⟩ := P
  exact ⟨⟨a, x, y, by rw [List.getElem?_append_left (List.getElem?_eq_some_iff.mp h1).1]; exact h1, h2⟩, hc.push hl⟩
theorem groups_spec {many : Nat} (hm : many ≤ 5) {st : Sto} {m : Nat} (P : PenAt st n m) (hk : m ≤ 600000) :
    ∃ (gs : List Grp) (st' : Sto), F__law_groups [.gl n, .int (many : Int)] st = .ok (grpsV gs) st' ∧ GrpsOk many gs ∧ PenAt st' n (m + 60) := by
  have rm : -(LINE : Int) ≤ (many : Int) ∧ (many : Int) ≤ LINE := by
    have : (LINE : Int) = 16777216 := rfl
    omega
  have l0 : (0 : Nat) ≤ LINE := by decide
  have l1 : (1 : Nat) ≤ LINE := by decide
  have bn : st.length ≠ n := fun e => by
    obtain ⟨a, x, y, h1, _⟩ := P.pen
    have := (List.getElem?_eq_some_iff.mp h1).1
    omega
  have c0 := lc_yes (b := bName 9) (t := eTup (aCons (eVar 9) aNil)) (e := [.val (.gl n), .val (.int (many : Int)), .non, .non, .non, .non, .non, .non, .non, .non, .non, .non]) (st := st) (fun i : Nat => PV.int (0 + (i : Int))) (fun i : Nat => intsV [(i : Int)]) (List.range many) fun i hi => ⟨[.val (.gl n), .val (.int (many : Int)), .non, .non, .non, .non, .non, .non, .non, .val (.int (0 + (i : Int))), .non, .non], by simp, by simp [l1]⟩
  have e0 : ((List.range many).map fun i : Nat => intsV [(i : Int)]) = (singles many).map intsV := by
    unfold singles
    rw [List.map_map]
    rfl
  rw [e0, show ((List.range many).map fun i : Nat => PV.int (0 + (i : Int))) = rangeF 0 many from rfl] at c0
  have P0 := P.push (glBs_ivs (singles many) 0)
  obtain ⟨a, s1, e1, a0, a1, P1, S1⟩ := draw_spec (k := 5) P0 (by omega) (by decide) (by decide)
  have hB : s1[st.length]? = some (.lst ((singles many).map intsV)) := by
    rw [S1.2 _ bn, List.getElem?_append_right (Nat.le_refl _), Nat.sub_self]
    rfl
  have hr : (rangeF 0 a.toNat).length = a.toNat := rangeF_len ..
  have ra : -(LINE : Int) ≤ a ∧ a ≤ LINE := by
    have : (LINE : Int) = 16777216 := rfl
    omega
  obtain ⟨B', G', s2, y4, y5, y6, y7, y8, y9, y10, y11, f1, P2, f3, f4⟩ := grp_loop bn hm (rangeF 0 a.toNat) (singles many) [] s1 (m + 1) .non .non .non .non .non .non .non .non P1 (by rw [hr]; omega) hB (by unfold singles; rw [List.length_map, List.length_range]; exact hm) (singles_ok many) over_nil (by rw [hr]; simp; omega)
  rw [hr] at P2 f4
  have g5 : G'.length ≤ 5 := by simp at f4; omega
  obtain ⟨gs, s3, e3, p3, P3, S3⟩ := mixed_spec grpV (l := G') P2 (by omega) (by omega)
  refine ⟨gs, s3, ?_, grps_of f3 g5 p3, P3.mono (by omega)⟩
  simp only [List.map_nil] at f1
  unfold F__law_groups mkFn f__law_groups w__law_groups_1 l__law_groups_0
  simp [rm, c0, l0, e1, ra, f1, e3, tupF]
theorem costs_loop : ∀ (items : List PV) (C : List Int) (st : Sto) (m : Nat) (most x5 x6 x7 x1 x2 : EV), PenAt st n m → m + 2 * items.length ≤ 700000 → C.length + items.length ≤ 100 → (∀ x ∈ C, 1 ≤ x ∧ x ≤ 9999) →
    ∃ (C' : List Int) (st' : Sto) (y5 : EV), forLoop (bName 5) t__law_receipt_0 items [.val (.gl n), x1, x2, most, .val (intsV C), x5, x6, x7] st = .nx [.val (.gl n), x1, x2, most, .val (intsV C'), y5, x6, x7] st' ∧ C'.length = C.length + items.length ∧ (∀ x ∈ C', 1 ≤ x ∧ x ≤ 9999) ∧ PenAt st' n (m + 2 * items.length)
  | [], C, st, m, most, x5, x6, x7, x1, x2, P, _, _, h => ⟨C, st, x5, rfl, rfl, h, P⟩
  | x :: items, C, st, m, most, x5, x6, x7, x1, x2, P, hk, hl, h => by
    rw [List.length_cons] at hk hl
    obtain ⟨v, s1, e1, hv, P1, S1⟩ := pick_spec (l := [.int 20, .int 90, .int 9999]) P (by omega) (by simp) (by decide)
    obtain ⟨k, rfl, k0, k1⟩ : ∃ k : Int, v = .int k ∧ 0 < k ∧ k ≤ 9999 := by
      simp only [List.mem_cons, List.not_mem_nil, or_false] at hv
      rcases hv with rfl | rfl | rfl
      · exact ⟨20, rfl, by decide, by decide⟩
      · exact ⟨90, rfl, by decide, by decide⟩
      · exact ⟨9999, rfl, by decide, by decide⟩
    obtain ⟨a, s2, e2, a0, a1, P2, S2⟩ := draw_spec (k := k) P1 (by omega) k0 (by omega)
    obtain ⟨C', s3, y5, f1, f2, f3, f4⟩ := costs_loop items (C ++ [1 + a]) s2 (m + 2) most (.val x) x6 x7 x1 x2 P2 (by omega) (by rw [List.length_append, List.length_singleton]; omega) (fun y hy => by
      rcases List.mem_append.mp hy with hy | hy
      · exact h y hy
      · rw [List.mem_singleton.mp hy]; omega)
    refine ⟨C', s3, y5, ?_, by rw [f2, List.length_append, List.length_singleton, List.length_cons]; omega, f3, f4.mono (by rw [List.length_cons]; omega)⟩
    have ad := addF_tup (l := C.map PV.int) (m := [.int (1 + a)]) (by rw [List.length_map, List.length_singleton]; omega)
    have l1 : (1 : Nat) ≤ LINE := by decide
    have l3 : (3 : Nat) ≤ LINE := by decide
    have ht : t__law_receipt_0 [.val (.gl n), x1, x2, most, .val (intsV C), .val x, x6, x7] st = .nx [.val (.gl n), x1, x2, most, .val (intsV (C ++ [1 + a])), .val x, x6, x7] s2 := by
      unfold t__law_receipt_0
      simp [l1, l3, e1, e2, ad]
    rw [forLoop_nx (by simp) ht]
    exact f1
theorem deals_lc {c : List Int} (hc : CostsOk c) {most : Int} (hm : 1 ≤ most) (hm2 : most ≤ 9999) {x1 x2 x5 x6 : EV} : ∀ (items : List PV) (st : Sto) (m : Nat), PenAt st n m → m + 10 * items.length ≤ 700000 →
    ∃ (ds : List Deal) (st' : Sto), lcLoop (bName 7) tYesF (eCall F__law_deal (aCons (eVar 0) (aCons (eVar 4) (aCons (eVar 3) aNil)))) [.val (.gl n), x1, x2, .val (.int most), .val (intsV c), x5, x6, .non] items st = .ok (ds.map dealV) st' ∧ ds.length = items.length ∧ (∀ d ∈ ds, DealOk c d) ∧ PenAt st' n (m + 10 * items.length)
  | [], st, m, P, _ => ⟨[], st, rfl, rfl, by simp, P⟩
  | x :: items, st, m, P, hk => by
    rw [List.length_cons] at hk
    obtain ⟨d, s1, e1, hd, P1, S1⟩ := deal_spec hc hm hm2 P (by omega)
    obtain ⟨ds, s2, f1, f2, f3, f4⟩ := deals_lc hc hm hm2 items s1 (m + 10) P1 (by omega)
    refine ⟨d :: ds, s2, ?_, by rw [List.length_cons, List.length_cons, f2], fun y hy => ?_, f4.mono (by rw [List.length_cons]; omega)⟩
    · have ht : eCall F__law_deal (aCons (eVar 0) (aCons (eVar 4) (aCons (eVar 3) aNil))) [.val (.gl n), x1, x2, .val (.int most), .val (intsV c), x5, x6, .val x] st = .ok (dealV d) s1 := by
        simp [e1]
      exact lcLoop_ok (by simp) ht f1
    · rcases List.mem_cons.mp hy with rfl | hy
      · exact hd
      · exact f3 y hy
theorem receipt_spec {st : Sto} {m : Nat} {p q : Int} (hp : 1 ≤ p ∧ p ≤ 5) (hq : 0 ≤ q ∧ q ≤ 5) (P : PenAt st n m) (hk : m ≤ 400000) :
    ∃ c ds gs st', F__law_receipt [.gl n, .int p, .int q] st = .ok (.tup [intsV c, dealsV ds, grpsV gs]) st' ∧ RcOk c ds gs ∧ PenAt st' n (m + 200) := by
  obtain ⟨v, s1, e1, hv, P1, S1⟩ := pick_spec (l := [.int 3, .int 9, .int 9, .int 60, .int 9999]) P (by omega) (by simp) (by decide)
  obtain ⟨most, rfl, k0, k1⟩ : ∃ k : Int, v = .int k ∧ 1 ≤ k ∧ k ≤ 9999 := by
    simp only [List.mem_cons, List.not_mem_nil, or_false] at hv
    rcases hv with rfl | rfl | rfl | rfl | rfl
    · exact ⟨3, rfl, by decide, by decide⟩
    · exact ⟨9, rfl, by decide, by decide⟩
    · exact ⟨9, rfl, by decide, by decide⟩
    · exact ⟨60, rfl, by decide, by decide⟩
    · exact ⟨9999, rfl, by decide, by decide⟩
  obtain ⟨a, s2, e2, a0, a1, P2, S2⟩ := draw_spec (k := p) P1 (by omega) (by omega) (by omega)
  have hr : (rangeF 0 (1 + a).toNat).length = (1 + a).toNat := rangeF_len ..
  have ra : -(LINE : Int) ≤ 1 + a ∧ 1 + a ≤ LINE := by
    have : (LINE : Int) = 16777216 := rfl
    omega
  obtain ⟨c, s3, y5, f1, f2, f3, P3⟩ := costs_loop (rangeF 0 (1 + a).toNat) [] s2 (m + 2) (.val (.int most)) .non .non .non (.val (.int p)) (.val (.int q)) P2 (by rw [hr]; omega) (by rw [hr]; simp; omega) (by simp)
  rw [hr] at f2 P3
  have hc : CostsOk c := ⟨by simp at f2; omega, by simp at f2; omega, f3⟩
  obtain ⟨d, s4, e4, d0, d1, P4, S4⟩ := draw_spec (k := q + 1) P3 (by omega) (by omega) (by omega)
  have hr2 : (rangeF 0 d.toNat).length = d.toNat := rangeF_len ..
  have rd : -(LINE : Int) ≤ d ∧ d ≤ LINE := by
    have : (LINE : Int) = 16777216 := rfl
    omega
  obtain ⟨ds, s5, g1, g2, g3, P5⟩ := deals_lc hc k0 k1 (x1 := .val (.int p)) (x2 := .val (.int q)) (x5 := y5) (x6 := .non) (rangeF 0 d.toNat) s4 _ P4 (by rw [hr2]; omega)
  rw [hr2] at g2 P5
  have hd : DealsOk c ds := ⟨by omega, g3⟩
  obtain ⟨gs, s6, h1, h2, P6⟩ := groups_spec (many := ds.length) hd.1 P5 (by omega)
  have l0 : (0 : Nat) ≤ LINE := by decide
  have l3 : (3 : Nat) ≤ LINE := by decide
  have l5 : (5 : Nat) ≤ LINE := by decide
  refine ⟨c, ds, gs, s6, ?_, ⟨hc, hd, h2⟩, P6.mono (by omega)⟩
  rw [show intsV ([] : List Int) = PV.tup [] from rfl] at f1
  unfold F__law_receipt mkFn f__law_receipt w__law_receipt_0 l__law_receipt_0
  simp [l0, l3, l5, e1, e2, ra, f1, e4, rd, g1, tupF, h1]
end

/-! ### the law -/
theorem cell_spec (ns : List Int) (i : Nat) (st : Sto) : ∃ c, F__law_cell_at [.scr ns, .int i] st = .ok (.int c) st := by
  unfold F__law_cell_at mkFn f__law_cell_at
  have hl : lenF [.scr ns] = some (.int ns.length) := rfl
  by_cases h : i < ns.length
  · refine ⟨ns[i], ?_⟩
    have q : ixF st (.scr ns) (i : Int) = some (.int ns[i]) := by
      show (atI ns (i : Int)).map PV.int = _
      rw [atI_nat h]
      rfl
    simp [hl, h, q]
  · exact ⟨0, by simp [hl, h]⟩
theorem pen_spec (c : Int) {st : Sto} (h : Cln st) : ∃ st', F__law_pen [.int c] st = .ok (.gl st.length) st' ∧ PenAt st' st.length 0 := by
  have l3 : (3 : Nat) ≤ LINE := by decide
  have e1 : powF (.int 10) (.int 18) = some (.int 1000000000000000000) := rfl
  have e2 : modF (.int c) (.int 1000000007) = some (.int (c % 1000000007)) := modF_ok (by decide)
  have e3 : maxF [.int 0, .int (c - 1000000000000000000)] = some (.int (if c - 1000000000000000000 > 0 then c - 1000000000000000000 else 0)) := rfl
  refine ⟨st ++ [.lst [.int (if c - 1000000000000000000 > 0 then c - 1000000000000000000 else 0), .int (c % 1000000007), .int 0]], ?_, ⟨if c - 1000000000000000000 > 0 then c - 1000000000000000000 else 0, c % 1000000007, 0, List.getElem?_concat_length, ?_, Int.emod_nonneg _ (by decide), Int.emod_lt_of_pos _ (by decide), by decide, by decide⟩, h.push (gl3 _ _ _)⟩
  · unfold F__law_pen mkFn f__law_pen
    simp [e1, e2, e3, l3]
  · split <;> omega
theorem cut_len {l : List PV} {lo hi : Option Int} : (cutF l lo hi).length ≤ l.length := by
  unfold cutF
  rw [List.length_take, List.length_drop]
  omega
theorem cut_take {l : List PV} {k : Nat} (h : k ≤ l.length) : cutF l none (some (k : Int)) = l.take k := by
  have e1 : HT.sIx l.length l.length (some (k : Int)) = k := by unfold HT.sIx; simp only; rw [if_neg (by omega)]; omega
  have e2 : HT.sIx l.length 0 none = 0 := rfl
  unfold cutF
  rw [e1, e2, List.drop_zero, Nat.sub_zero]
end Q09
namespace Q09
open PySem PySem.Spec L2 PL Rc
/-! ### a receipt from its text -/
section
variable {st : Sto} {c : List Int} {ds : List Deal} {gs : List Grp}
theorem read_e (h : RcOk c ds gs) (hc : Cln st) : F_Receipt_read [.cls "Receipt", .str (textT c ds gs)] st = .ok (rcV c ds gs) st := by
  have p := parts_in_e (st := st) h
  have m := make_ok (st := st) h hc
  have c1 := crossed_ok (st := st) h.gok.2.2
  have k1 := prices_ok (st := st) h.cok
  have k2 := deals_ok (st := st) h.dok
  have k3 := grps_ok (st := st) h.gok
  have pl : plan [.pos 1, .pos 2, .pos 3] [.non, intsV c, dealsV ds, grpsV gs] [.tup [], .tup []] [] = [intsV c, dealsV ds, grpsV gs] := rfl
  unfold F_Receipt_read mkFn f_Receipt_read
  simp [p, k1, k2, k3, c1, isntF, isNonB, pl, m]
end

end Q09
namespace Q09
open PySem PySem.Spec L2 PL Rc
/-! ### a receipt without a deal -/
section
variable {st : Sto} {c : List Int} {ds : List Deal} {gs : List Grp} {n : Nat}
theorem Cln.alive (h : Cln st) : st.all aliveC = true := List.all_eq_true.mpr fun c hc => by
  have g := h c hc
  cases c with
  | dead => cases g
  | _ => rfl
theorem encL1 (l : List Int) : neF (intsV l) (.tup []) = some (.bl (!decide (l = []))) := encI.tup.neGv (by decide) l []
abbrev keyL (l : List Int) : List Key := l.map Sum.inl
def dtV (T : List (List Int × Int)) : List (List Key × PV) := T.map fun e => (keyL e.1, .int e.2)
theorem keyL_inj {a b : List Int} : keyL a = keyL b ↔ a = b := List.map_inj_right fun _ _ h => Sum.inl.inj h
theorem keyT_ints : ∀ l : List Int, keyT (l.map PV.int) = some (keyL l)
  | [] => rfl
  | x :: l => by
    show (keyT (l.map PV.int)).map _ = _
    rw [keyT_ints l]
    rfl
theorem keyP_ints {l : List Int} (h : l ≠ []) : keyP (intsV l) = some (keyL l) := by
  cases l with
  | nil => exact absurd rfl h
  | cons x l => exact keyT_ints (x :: l)
theorem kP_ints (l : List Int) : (keyL l).map kP = l.map PV.int := by
  rw [List.map_map]
  rfl
theorem val_dt (l : List Int) : ∀ T : List (List Int × Int), valT (dtV T) (keyL l) = (T.find? fun e => decide (e.1 = l)).map fun e => .int e.2
  | [] => rfl
  | e :: T => by
    show (if keyL e.1 = keyL l then some (PV.int e.2) else valT (dtV T) (keyL l)) = _
    rw [List.find?_cons]
    by_cases h : e.1 = l
    · rw [if_pos (keyL_inj.mpr h), decide_eq_true h]
      rfl
    · rw [if_neg (fun z => h (keyL_inj.mp z)), decide_eq_false h]
      exact val_dt l T
theorem set_dt {l : List Int} {x v : Int} : ∀ {T : List (List Int × Int)}, (∀ e ∈ T, e.1 = l → e.2 = v) → setT (dtV T) (keyL l) (.int (mn2 x v)) = dtV (T.map fun e => if e.1 = l then (e.1, mn2 x e.2) else e)
  | [], _ => rfl
  | e :: T, h => by
    have ih := set_dt (x := x) fun f hf => h f (List.mem_cons_of_mem _ hf)
    show (if keyL e.1 = keyL l then (keyL e.1, PV.int (mn2 x v)) else (keyL e.1, PV.int e.2)) :: setT (dtV T) (keyL l) (.int (mn2 x v)) = _
    rw [ih, List.map_cons]
    by_cases h2 : e.1 = l
    · rw [if_pos (keyL_inj.mpr h2), if_pos h2, ← h e List.mem_cons_self h2]
      rfl
    · rw [if_neg (fun z => h2 (keyL_inj.mp z)), if_neg h2]
      rfl
theorem nd_key : ∀ {T : List (List Int × Int)}, (T.map (·.1)).Nodup → ∀ e ∈ T, ∀ f ∈ T, e.1 = f.1 → e = f
  | [], _, _, h, _, _, _ => by cases h
  | a :: T, h, e, he, f, hf, q => by
    rw [List.map_cons, List.nodup_cons] at h
    rcases List.mem_cons.mp he with h1 | h1
    · rcases List.mem_cons.mp hf with h2 | h2
      · rw [h1, h2]
      · exact absurd (List.mem_map.mpr ⟨f, h2, by rw [← q, h1]⟩) h.1
    · rcases List.mem_cons.mp hf with h2 | h2
      · exact absurd (List.mem_map.mpr ⟨e, h1, by rw [q, h2]⟩) h.1
      · exact nd_key h.2 e h1 f h2 q
/-- the least that was told for a key -/
theorem put_dt {T : List (List Int × Int)} {l : List Int} {x : Int} (nd : (T.map (·.1)).Nodup) : ∃ v, (valT (dtV T) (keyL l)).getD (.int x) = .int v ∧ putT (dtV T) (keyL l) (.int (if v < x then v else x)) = dtV (putW T l x) := by
  rw [val_dt]
  unfold putT putW
  rw [val_dt]
  cases e : T.find? fun e => decide (e.1 = l) with
  | none =>
    have n : ¬ T.any (fun e => decide (e.1 = l)) = true := fun z => by
      obtain ⟨y, hy, q⟩ := List.any_eq_true.mp z
      have := List.find?_eq_none.mp e y hy
      exact this q
    refine ⟨x, rfl, ?_⟩
    rw [if_neg (by simp), if_neg n, if_neg (by omega)]
    unfold dtV
    rw [List.map_append]
    rfl
  | some y =>
    have hy := List.mem_of_find?_eq_some e
    have q : y.1 = l := by
      have := List.find?_some e
      exact of_decide_eq_true this
    have s : T.any (fun e => decide (e.1 = l)) = true := List.any_eq_true.mpr ⟨y, hy, decide_eq_true q⟩
    refine ⟨y.2, rfl, ?_⟩
    rw [if_pos (by simp), if_pos s]
    exact set_dt (x := x) (v := y.2) fun f hf z => by rw [nd_key nd f hf y hy (z.trans q.symm)]
theorem left_lc {l : List Int} (k : Int) (hl : l.length ≤ 5) {x0 x2 x3 x5 x6 : EV} : l_groups_without_0 [x0, .val (.int k), x2, x3, .val (intsV l), x5, x6] st = .ok ((left k l).map PV.int) st := by
  have l1 : l.length ≤ 16777216 := by omega
  have lf : (l.filter fun x => !decide (x = k)).length ≤ 16777216 := by have := List.length_filter_le (fun x => !decide (x = k)) l; omega
  have lc := lc_map (b := bName 6) (c := tV (eOp neF (eVar 6) (eVar 1))) (t := eOp subF (eVar 6) (eB intF (aCons (eOp gtF (eVar 6) (eVar 1)) aNil))) (e := [x0, .val (.int k), x2, x3, .val (intsV l), x5, .non]) (st := st) PV.int (fun x => !decide (x = k)) (fun x => .int (dn k x)) l fun x hx => by
    refine ⟨[x0, .val (.int k), x2, x3, .val (intsV l), x5, .val (.int x)], by simp, by simp [neF_int], fun _ => ?_⟩
    have i : intF [.bl (decide (x > k))] = some (.int (if x > k then 1 else 0)) := by
      by_cases h : x > k
      · rw [if_pos h, decide_eq_true h]; rfl
      · rw [if_neg h, decide_eq_false h]; rfl
    have g : gtF (.int x) (.int k) = some (.bl (decide (x > k))) := rfl
    have sb : subF (.int x) (.int (if x > k then 1 else 0)) = some (.int (dn k x)) := rfl
    simp only [eOp_e, eVar_e, List.getElem?_cons_succ, List.getElem?_cons_zero, bind_ok, eB_e, aCons_e, aNil_e, g, of_some, i, sb]
  unfold l_groups_without_0 left
  rw [List.map_map]
  simp [lc, LINE_val, lf]
theorem gw_turn {T : List (List Int × Int)} {g : Grp} (k : Int) (nd : (T.map (·.1)).Nodup) (hT : T.length ≤ 1000) (hg : g.2.length ≤ 5) {x0 x5 x6 : EV} :
    ∃ y5, t_groups_without_0 [x0, .val (.int k), .val (.gl st.length), .val (.int g.1), .val (intsV g.2), x5, .non] (st ++ [.dt (dtV T)]) =
      .nx [x0, .val (.int k), .val (.gl st.length), .val (.int g.1), .val (intsV g.2), y5, .non] (st ++ [.dt (dtV (stepW k T g))]) := by
  have lc := left_lc (st := st ++ [.dt (dtV T)]) k hg (x0 := x0) (x2 := .val (.gl st.length)) (x3 := .val (.int g.1)) (x5 := x5) (x6 := .non)
  have ne := encL1 (left k g.2)
  have dl : dtAt (st ++ [.dt (dtV T)]) (.gl st.length) = some (st.length, dtV T) := by
    unfold dtAt
    simp
  have ll : (dtV T).length < 16777216 := by unfold dtV; rw [List.length_map]; omega
  have sl : ∀ c' : Cell, (st ++ [Cell.dt (dtV T)]).set st.length c' = st ++ [c'] := fun c' => by simp
  refine ⟨.val (intsV (left k g.2)), ?_⟩
  unfold t_groups_without_0 stepW
  by_cases h : left k g.2 = []
  · rw [if_pos h]
    rw [decide_eq_true h] at ne
    simp only [intsV] at lc ne ⊢
    simp [lc, tupF, ne, LINE_val]
  · rw [if_neg h]
    rw [decide_eq_false h] at ne
    obtain ⟨v, h1, h2⟩ := put_dt (T := T) (l := left k g.2) (x := g.1) nd
    have kp := keyP_ints h
    have m : minF [.int g.1, .int v] = some (.int (if v < g.1 then v else g.1)) := rfl
    simp only [intsV] at lc ne kp ⊢
    simp [lc, tupF, ne, LINE_val, dl, kp, h1, m, ll, h2, sl]
theorem gw_loop (k : Int) {x0 : EV} : ∀ (gs : List Grp) (T : List (List Int × Int)) (x3 x4 x5 : EV), (T.map (·.1)).Nodup → T.length + gs.length ≤ 1000 → (∀ g ∈ gs, g.2.length ≤ 5) →
    ∃ y3 y4 y5, forLoop (bTup ((bName 3) :: ((bName 4) :: []))) t_groups_without_0 (gs.map grpV) [x0, .val (.int k), .val (.gl st.length), x3, x4, x5, .non] (st ++ [.dt (dtV T)]) =
      .nx [x0, .val (.int k), .val (.gl st.length), y3, y4, y5, .non] (st ++ [.dt (dtV (foldW k gs T))])
  | [], T, x3, x4, x5, _, _, _ => ⟨x3, x4, x5, rfl⟩
  | g :: gs, T, x3, x4, x5, nd, hl, hg => by
    rw [List.length_cons] at hl
    obtain ⟨y5, t⟩ := gw_turn (st := st) k nd (by omega) (hg g List.mem_cons_self) (x0 := x0) (x5 := x5) (x6 := .non)
    have nd2 : ((stepW k T g).map (·.1)).Nodup := by
      unfold stepW
      split
      · exact nd
      · exact putW_nd nd
    have l2 : (stepW k T g).length ≤ T.length + 1 := by
      unfold stepW
      split
      · omega
      · exact putW_len
    obtain ⟨z3, z4, z5, e⟩ := gw_loop k (x0 := x0) gs (stepW k T g) (.val (.int g.1)) (.val (intsV g.2)) y5 nd2 (by omega) fun g' hg' => hg g' (List.mem_cons_of_mem _ hg')
    refine ⟨z3, z4, z5, ?_⟩
    rw [List.map_cons, forLoop_nx (by simp) t, e]
    rfl
theorem grp_few {m : Nat} (h : GrpsOk m gs) (hm : m ≤ 5) : ∀ g ∈ gs, g.2.length ≤ 5 := fun g hg => by
  obtain ⟨_, _, _, r, b⟩ := h.2.1 g hg
  have := rises_le (lo := 0) (m := m) r b
  omega
theorem groups_e {m k : Nat} (h : GrpsOk m gs) (hm : m ≤ 5) (hk : k < m) (hc : Cln st) : F_groups_without [grpsV gs, .int (k : Int)] st = .ok (grpsV (gsW gs k)) st := by
  obtain ⟨y3, y4, y5, e⟩ := gw_loop (st := st) (k : Int) (x0 := .val (grpsV gs)) gs [] .non .non .non (by simp) (by have := h.1; simp; omega) (grp_few h hm)
  have e : forLoop (bTup ((bName 3) :: ((bName 4) :: []))) t_groups_without_0 (gs.map grpV) [.val (grpsV gs), .val (.int (k : Int)), .val (.gl st.length), .non, .non, .non, .non] (st ++ [.dt []]) = _ := e
  have ok := gsW_ok h hk
  have fl := foldW_len (k := (k : Int)) gs []
  have al : (st ++ [Cell.dt (dtV (foldW k gs []))]).all aliveC = true := by
    rw [List.all_append, hc.alive]
    rfl
  have ks : ((dtV (foldW k gs [])).all fun kv => decide (kv.1.length ≤ LINE)) = true := List.all_eq_true.mpr fun kv hkv => by
    obtain ⟨t, ht, rfl⟩ := List.mem_map.mp hkv
    have := grp_few ok (by omega) (t.2, t.1) (List.mem_map.mpr ⟨t, ht, rfl⟩)
    refine decide_eq_true ?_
    show (keyL t.1).length ≤ LINE
    rw [LINE_val, List.length_map]
    dsimp only at this
    omega
  have it : ((dtV (foldW k gs [])).map fun kv => PV.tup [kv.2, .tup (kv.1.map kP)]) = (gsW gs k).map grpV := by
    unfold dtV gsW
    rw [List.map_map, List.map_map]
    refine List.map_congr_left fun t _ => ?_
    show PV.tup [.int t.2, .tup ((keyL t.1).map kP)] = _
    rw [kP_ints]
    rfl
  have dl : dtAt (st ++ [.dt (dtV (foldW k gs []))]) (.gl st.length) = some (st.length, dtV (foldW k gs [])) := by
    unfold dtAt
    simp
  have l1 : l_groups_without_1 [.val (grpsV gs), .val (.int (k : Int)), .val (.gl st.length), y3, y4, y5, .non] (st ++ [.dt (dtV (foldW k gs []))]) = .ok ((gsW gs k).map grpV) (st ++ [.dt (dtV (foldW k gs []))]) := by
    unfold l_groups_without_1
    rw [lItemsT_e]
    simp only [List.getElem?_cons_succ, List.getElem?_cons_zero, dl]
    rw [if_pos ⟨al, ks, by simp, by simp⟩, it]
  have lw : ((gsW gs k).map grpV).length ≤ 16777216 := by rw [List.length_map]; have := ok.1; omega
  have g3 : glB st.length (grpsV (gsW gs k)) = true := by
    unfold glB
    generalize gsW gs k = G
    induction G with
    | nil => rfl
    | cons g G ih =>
      rw [List.map_cons]
      unfold glBs
      rw [ih]
      have := glBs_ints g.2 st.length
      unfold grpV intsV glB glBs glB glBs glB
      rw [this]
      rfl
  have body : mkFn 7 f_groups_without [grpsV gs, .int (k : Int)] st = .ok (grpsV (gsW gs k)) (st ++ [.dt (dtV (foldW k gs []))]) := by
    unfold mkFn f_groups_without w_groups_without_0
    simp only [grpsV] at e l1 ⊢
    simp [e, l1, tupF, LINE_val, lw, -List.map_map]
  unfold F_groups_without dropF
  rw [body]
  dsimp only
  rw [show (st ++ [Cell.dt (dtV (foldW k gs []))]).take st.length = st by simp, if_pos ⟨hc.all st.length, g3⟩]
end
end Q09
namespace Q09
open PySem PySem.Spec L2 PL Rc
/-! ### another limit -/
section
variable {st : Sto} {c : List Int} {ds : List Deal} {gs : List Grp} {n : Nat}
def limG (gs : List Grp) (k : Nat) (x : Int) : List Grp := gs.set k (x, (gs.getD k (0, [])).2)
theorem limG_len (k : Nat) (x : Int) : (limG gs k x).length = gs.length := List.length_set ..
theorem getD_at {k : Nat} (hk : k < gs.length) : gs.getD k (0, []) = gs[k] := by rw [List.getD_eq_getElem?_getD, List.getElem?_eq_getElem hk]; rfl
theorem at_grps {k : Nat} (hk : k < gs.length) : atI (gs.map grpV) (k : Int) = some (grpV gs[k]) := by
  rw [atI_nat (by rw [List.length_map]; exact hk), List.getElem_map]
theorem cut_dropN {l : List PV} {k : Nat} (h : k ≤ l.length) : cutF l (some (k : Int)) none = l.drop k := by
  have e1 : HT.sIx l.length 0 (some (k : Int)) = k := by unfold HT.sIx; simp only; rw [if_neg (by omega)]; omega
  have e2 : HT.sIx l.length l.length none = l.length := rfl
  unfold cutF
  rw [e1, e2]
  exact List.take_of_length_le (by rw [List.length_drop]; exact Nat.le_refl _)
theorem lim_parts {k : Nat} {x : Int} (hk : k < gs.length) : (gs.map grpV).take k ++ [grpV (x, gs[k].2)] ++ (gs.map grpV).drop (k + 1) = (limG gs k x).map grpV := by
  unfold limG
  rw [getD_at hk, List.set_eq_take_append_cons_drop, if_pos hk, List.map_append, List.map_cons, List.map_take, List.map_drop, List.append_assoc]
  rfl
theorem lim_facts {k : Nat} {x : Int} (hk : k < gs.length) (h5 : gs.length ≤ 5) : slF (grpsV gs) none (some (k : Int)) = some (.tup ((gs.map grpV).take k)) ∧ slF (grpsV gs) (some ((k : Int) + 1)) none = some (.tup ((gs.map grpV).drop (k + 1))) ∧
    addF (.tup ((gs.map grpV).take k)) (.tup [grpV (x, gs[k].2)]) = some (.tup ((gs.map grpV).take k ++ [grpV (x, gs[k].2)])) ∧ addF (.tup ((gs.map grpV).take k ++ [grpV (x, gs[k].2)])) (.tup ((gs.map grpV).drop (k + 1))) = some (grpsV (limG gs k x)) := by
  have c1 := cut_take (l := gs.map grpV) (k := k) (by rw [List.length_map]; omega)
  have c2 := cut_dropN (l := gs.map grpV) (k := k + 1) (by rw [List.length_map]; omega)
  refine ⟨by rw [← c1]; rfl, by rw [← c2]; rfl, addF_tup (by simp; omega), ?_⟩
  rw [addF_tup (by simp; omega), lim_parts hk]
theorem lim_snd (k : Nat) (x : Int) : (limG gs k x).map (·.2) = gs.map (·.2) := by
  unfold limG
  by_cases hk : k < gs.length
  · rw [List.map_set, getD_at hk]
    have e : (gs[k]).2 = (gs.map (·.2))[k]'(by rw [List.length_map]; exact hk) := (List.getElem_map ..).symm
    rw [e, List.set_getElem_self]
  · rw [List.set_eq_of_length_le (by omega)]
theorem rc_lim (h : RcOk c ds gs) {k : Nat} {x : Int} (hk : k < gs.length) (h0 : 0 ≤ x) (h5 : x ≤ 5) : RcOk c ds (limG gs k x) := by
  obtain ⟨g1, g2, g3⟩ := h.gok
  refine ⟨h.cok, h.dok, by rw [limG_len]; exact g1, fun g hg => ?_, ?_⟩
  · unfold limG at hg
    rcases List.mem_or_eq_of_mem_set hg with hg | rfl
    · exact g2 g hg
    · rw [getD_at hk]
      obtain ⟨_, _, q⟩ := g2 _ (List.getElem_mem hk)
      exact ⟨h0, h5, q⟩
  · have e := lim_snd (gs := gs) k x
    have p : (gs.map (·.2)).Pairwise Meet := List.pairwise_map.mpr g3
    rw [← e] at p
    exact List.pairwise_map.mp p
theorem limited_e (h : RcOk c ds gs) (hc : Cln st) {k : Nat} {x : Int} (hk : k < gs.length) (h0 : 0 ≤ x) (h5 : x ≤ 5) : F_Receipt_limited [rcV c ds gs, .int (k : Int), .int x] st = .ok (rcV c ds (limG gs k x)) st := by
  have g5 := h.gok.1
  obtain ⟨s1, s2, a1, a2⟩ := lim_facts (x := x) hk g5
  have ag := at_grps hk
  have mk := make_ok (rc_lim h hk h0 h5) hc
  have b1 := between_i (st := st) (k : Int) 0 ((gs.length : Int) - 1)
  have b2 := between_i (st := st) x 0 5
  rw [decide_eq_true (by omega)] at b1 b2
  have l2 : (2 : Nat) ≤ LINE := by decide
  have l1 : (1 : Nat) ≤ LINE := by decide
  have f1 : fldF "Receipt" "costs" st (rcV c ds gs) = some (intsV c) := rfl
  have f2 : fldF "Receipt" "offers" st (rcV c ds gs) = some (dealsV ds) := rfl
  have f3 : fldF "Receipt" "bounds" st (rcV c ds gs) = some (grpsV gs) := rfl
  have ln : lenF [grpsV gs] = some (.int (gs.length : Int)) := by
    show some (PV.int ((gs.map grpV).length : Int)) = _
    rw [List.length_map]
  have pl : ∀ a b d : PV, plan [.pos 1, .pos 2, .pos 3] [.non, a, b, d] [.tup [], .tup []] [] = [a, b, d] := fun _ _ _ => rfl
  simp only [grpsV, grpV, intsV, dealsV, dealV] at s1 s2 a1 a2 ag mk f1 f2 f3 ln ⊢
  generalize hG : (limG gs k x).map (fun g => PV.tup [.int g.1, .tup (g.2.map PV.int)]) = G at *
  unfold F_Receipt_limited mkFn f_Receipt_limited
  simp [f1, f2, f3, ln, b1, b2, s1, s2, a1, a2, ag, atp1, l1, l2, mk, plan, Src.get, -List.map_take, -List.map_drop]
/-! ### the most that is saved -/
end


/-! ### the receipts that the law makes of one -/
section
variable {st : Sto} {c : List Int} {ds : List Deal} {gs : List Grp} {n : Nat}
theorem deals_less (h : DealsOk c ds) (k : Nat) : DealsOk c (ds.eraseIdx k) := ⟨Nat.le_trans (List.length_eraseIdx_le ds k) h.1, fun d hd => h.2 d (List.mem_of_mem_eraseIdx hd)⟩
theorem rc_less (h : RcOk c ds gs) {k : Nat} (hk : k < ds.length) : RcOk c (ds.eraseIdx k) (gsW gs k) :=
  ⟨h.cok, deals_less h.dok k, by rw [List.length_eraseIdx, if_pos hk]; exact gsW_ok h.gok hk⟩
theorem sub_facts {k : Nat} (hk : k < ds.length) (h5 : ds.length ≤ 5) : slF (dealsV ds) none (some (k : Int)) = some (.tup ((ds.map dealV).take k)) ∧ slF (dealsV ds) (some ((k : Int) + 1)) none = some (.tup ((ds.map dealV).drop (k + 1))) ∧
    addF (.tup ((ds.map dealV).take k)) (.tup ((ds.map dealV).drop (k + 1))) = some (dealsV (ds.eraseIdx k)) := by
  have c1 := cut_take (l := ds.map dealV) (k := k) (by rw [List.length_map]; omega)
  have c2 := cut_dropN (l := ds.map dealV) (k := k + 1) (by rw [List.length_map]; omega)
  refine ⟨by rw [← c1]; rfl, by rw [← c2]; rfl, ?_⟩
  rw [addF_tup (by simp; omega), List.eraseIdx_eq_take_drop_succ]
  show some (PV.tup _) = some (PV.tup ((ds.take k ++ ds.drop (k + 1)).map dealV))
  rw [List.map_append, List.map_take, List.map_drop]
theorem sub_e (h : RcOk c ds gs) (hc : Cln st) {k : Nat} (hk : k < ds.length) : F_Receipt___sub__ [rcV c ds gs, .int (k : Int)] st = .ok (rcV c (ds.eraseIdx k) (gsW gs k)) st := by
  have d5 := h.dok.1
  obtain ⟨s1, s2, a1⟩ := sub_facts hk d5
  have mk := make_ok (rc_less h hk) hc
  have gr := groups_e h.gok d5 hk hc
  have b1 := between_i (st := st) (k : Int) 0 ((ds.length : Int) - 1)
  rw [decide_eq_true (by omega)] at b1
  have f1 : fldF "Receipt" "costs" st (rcV c ds gs) = some (intsV c) := rfl
  have f2 : fldF "Receipt" "offers" st (rcV c ds gs) = some (dealsV ds) := rfl
  have f3 : fldF "Receipt" "bounds" st (rcV c ds gs) = some (grpsV gs) := rfl
  have ln : lenF [dealsV ds] = some (.int (ds.length : Int)) := by
    show some (PV.int ((ds.map dealV).length : Int)) = _
    rw [List.length_map]
  simp only [grpsV, grpV, intsV, dealsV, dealV] at s1 s2 a1 mk gr f1 f2 f3 ln ⊢
  generalize hG : (gsW gs k).map (fun g => PV.tup [.int g.1, .tup (g.2.map PV.int)]) = G at *
  generalize hD : (ds.eraseIdx k).map (fun d => PV.tup (d.map pairV)) = D at *
  unfold F_Receipt___sub__ mkFn f_Receipt___sub__
  simp [f1, f2, f3, ln, b1, s1, s2, a1, gr, mk, plan, Src.get, -List.map_take, -List.map_drop]
theorem add_e (h : RcOk c ds gs) (hc : Cln st) (h4 : ds.length ≤ 4) {d : Deal} (hd : DealOk c d) : F_Receipt___add__ [rcV c ds gs, dealV d] st = .ok (rcV c (ds ++ [d]) gs) st ∧ RcOk c (ds ++ [d]) gs := by
  have ok : RcOk c (ds ++ [d]) gs := by
    refine ⟨h.cok, ⟨by rw [List.length_append, List.length_singleton]; omega, fun x hx => ?_⟩, h.gok.1, fun g hg => ?_, h.gok.2.2⟩
    · rcases List.mem_append.mp hx with hx | hx
      · exact h.dok.2 x hx
      · rw [List.mem_singleton.mp hx]; exact hd
    · obtain ⟨g1, g2, g3, g4, g5⟩ := h.gok.2.1 g hg
      exact ⟨g1, g2, g3, g4, fun x hx => by have := g5 x hx; rw [List.length_append, List.length_singleton]; omega⟩
  refine ⟨?_, ok⟩
  have mk := make_ok ok hc
  have dk := deal_ok (st := st) hd
  have a1 : addF (dealsV ds) (.tup [dealV d]) = some (dealsV (ds ++ [d])) := by
    rw [addF_tup (by simp; omega)]
    unfold dealsV
    rw [List.map_append]
    rfl
  have f1 : fldF "Receipt" "costs" st (rcV c ds gs) = some (intsV c) := rfl
  have f2 : fldF "Receipt" "offers" st (rcV c ds gs) = some (dealsV ds) := rfl
  have f3 : fldF "Receipt" "bounds" st (rcV c ds gs) = some (grpsV gs) := rfl
  have ln : lenF [dealsV ds] = some (.int (ds.length : Int)) := by
    show some (PV.int ((ds.map dealV).length : Int)) = _
    rw [List.length_map]
  have e5 : eqF (.int (ds.length : Int)) (.int 5) = some (.bl false) := by
    rw [show eqF (.int (ds.length : Int)) (.int 5) = some (.bl (decide ((ds.length : Int) = 5))) from encI.eqGv (by decide) _ _, decide_eq_false (by omega)]
  simp only [grpsV, grpV, intsV, dealsV, dealV] at a1 mk dk f1 f2 f3 ln ⊢
  generalize hD : (ds ++ [d]).map (fun d => PV.tup (d.map pairV)) = D at *
  generalize hE : ds.map (fun d => PV.tup (d.map pairV)) = E at *
  unfold F_Receipt___add__ mkFn f_Receipt___add__
  simp [f1, f2, f3, ln, dk, e5, a1, mk, plan, Src.get, LINE_val]
theorem rc_seven : RcOk [7] [] [] := by
  refine ⟨⟨by simp, by simp, by simp⟩, ⟨by simp, by simp⟩, ⟨by simp, by simp, by simp⟩⟩
end

end Q09
namespace Q09
open PySem PySem.Spec L2 PL Rc
/-! ### receipts that are equal, texts that are equal -/
abbrev Tri := List Int × List Deal × List Grp
abbrev rcT (t : Tri) : PV := rcV t.1 t.2.1 t.2.2
def TriOk (t : Tri) : Prop := RcOk t.1 t.2.1 t.2.2
abbrev txT (t : Tri) : Str := textT t.1 t.2.1 t.2.2
section
variable {st : Sto} {c : List Int} {ds : List Deal} {gs : List Grp} {n : Nat}
theorem encGr : Enc grpV (fun g : Int × List Int => .tuple [.int g.1, .tuple (g.2.map PyData.int)]) 2 := encPair (encI.mono (by decide)) encL
theorem eq_cs (a b : List Int) : eqF (intsV a) (intsV b) = some (.bl (decide (a = b))) := encI.tup.eqGv (by decide) a b
theorem eq_ds (a b : List Deal) : eqF (dealsV a) (dealsV b) = some (.bl (decide (a = b))) := encP.tup.tup.eqGv (by decide) a b
theorem eq_gs (a b : List Grp) : eqF (grpsV a) (grpsV b) = some (.bl (decide (a = b))) := encGr.tup.eqGv (by decide) a b
theorem tri_eq (a b : Tri) : F_Receipt___eq__ [rcT a, rcT b] st = .ok (.bl (decide (a = b))) st := by
  obtain ⟨c, ds, gs⟩ := a
  obtain ⟨c', ds', gs'⟩ := b
  have io := isOwn_rc (st := st) (c := c') (ds := ds') (gs := gs')
  have f1 : ∀ (x : List Int) (y : List Deal) (z : List Grp), fldF "Receipt" "costs" st (rcV x y z) = some (intsV x) := fun _ _ _ => rfl
  have f2 : ∀ (x : List Int) (y : List Deal) (z : List Grp), fldF "Receipt" "offers" st (rcV x y z) = some (dealsV y) := fun _ _ _ => rfl
  have f3 : ∀ (x : List Int) (y : List Deal) (z : List Grp), fldF "Receipt" "bounds" st (rcV x y z) = some (grpsV z) := fun _ _ _ => rfl
  have e1 := eq_cs c c'
  have e2 := eq_ds ds ds'
  have e3 := eq_gs gs gs'
  have g1 := f1 c ds gs
  have g2 := f2 c ds gs
  have g3 := f3 c ds gs
  have k1 := f1 c' ds' gs'
  have k2 := f2 c' ds' gs'
  have k3 := f3 c' ds' gs'
  have fin : decide ((c, ds, gs) = (c', ds', gs')) = (decide (c = c') && (decide (ds = ds') && decide (gs = gs'))) := by
    rw [Bool.eq_iff_iff]
    simp [Prod.ext_iff]
  rw [fin]
  show F_Receipt___eq__ [rcV c ds gs, rcV c' ds' gs'] st = _
  generalize rcV c ds gs = A at *
  generalize rcV c' ds' gs' = B at *
  generalize intsV c = c1 at *
  generalize intsV c' = c2 at *
  generalize dealsV ds = d1 at *
  generalize dealsV ds' = d2 at *
  generalize grpsV gs = q1 at *
  generalize grpsV gs' = q2 at *
  generalize decide (c = c') = b1 at *
  generalize decide (ds = ds') = b2 at *
  generalize decide (gs = gs') = b3 at *
  unfold F_Receipt___eq__ mkFn f_Receipt___eq__
  cases b1 <;> cases b2 <;> cases b3 <;> simp [io, g1, g2, g3, k1, k2, k3, e1, e2, e3]
theorem prs_inj {a b : Deal} (h : a.map pairV = b.map pairV) : a = b := (List.map_inj_right fun p q e => by
  injection e with e
  injection e with e1 e2
  injection e1 with e1
  injection e2 with e2 _
  injection e2 with e2
  exact Prod.ext e1 e2).mp h
theorem ints_inj {a b : List Int} (h : a.map PV.int = b.map PV.int) : a = b := (List.map_inj_right fun p q e => by injection e).mp h
theorem rcT_inj {a b : Tri} (h : rcT a = rcT b) : a = b := by
  obtain ⟨c, ds, gs⟩ := a
  obtain ⟨c', ds', gs'⟩ := b
  injection h with _ _ h
  injection h with h1 h
  injection h with h2 h
  injection h with h3 _
  injection h1 with h1
  injection h2 with h2
  injection h3 with h3
  have e1 : c = c' := ints_inj h1
  have e2 : ds = ds' := (List.map_inj_right fun p q e => by
    injection e with e
    exact prs_inj e).mp h2
  have e3 : gs = gs' := (List.map_inj_right fun p q e => by
    injection e with e
    injection e with e1 e2
    injection e1 with e1
    injection e2 with e2 _
    injection e2 with e2
    exact Prod.ext e1 (ints_inj e2)).mp h3
  rw [e1, e2, e3]
/-- the text tells the receipt -/
theorem tx_inj {a b : Tri} (ha : TriOk a) (hb : TriOk b) : txT a = txT b ↔ a = b := by
  constructor
  · intro e
    have r1 := read_e (st := []) ha fun c hc => by cases hc
    have r2 := read_e (st := []) hb fun c hc => by cases hc
    rw [show textT a.1 a.2.1 a.2.2 = textT b.1 b.2.1 b.2.2 from e, r2] at r1
    injection r1 with r1 _
    exact rcT_inj r1.symm
  · intro e
    rw [e]
theorem same_tx {a : Tri} (h : TriOk a) : F__law_same [.str (txT a), .str (txT a)] st = .ok (.bl true) st := same_e ((sm_str (text_ok h)).tm.same (by decide) (by decide))
end
end Q09
namespace Q09
open PySem PySem.Spec L2 PL Rc
/-! ### receipts that are made of one -/
section
variable {st : Sto} {c : List Int} {ds : List Deal} {gs : List Grp} {n : Nat}
theorem rc_bare (h : RcOk c ds gs) {ds' : List Deal} (hs : ∀ d ∈ ds', d ∈ ds) (hl : ds'.length ≤ 5) : RcOk c ds' [] := ⟨h.cok, ⟨hl, fun d hd => h.dok.2 d (hs d hd)⟩, ⟨by simp, by simp, by simp⟩⟩
theorem fam_make (h : RcOk c ds []) (hc : Cln st) : makF "Receipt" F_Receipt___init__ [intsV c, dealsV ds, .tup []] st = .ok (rcV c ds []) st := make_ok h hc
theorem prop_facts : F_Receipt_prices [rcV c ds gs] st = .ok (intsV c) st ∧ F_Receipt_deals [rcV c ds gs] st = .ok (dealsV ds) st ∧ F_Receipt_groups [rcV c ds gs] st = .ok (grpsV gs) st ∧ F_Receipt___len__ [rcV c ds gs] st = .ok (.int ds.length) st := by
  refine ⟨?_, ?_, ?_, ?_⟩
  · unfold F_Receipt_prices mkFn f_Receipt_prices
    simp [fld_costs]
  · unfold F_Receipt_deals mkFn f_Receipt_deals
    simp [fld_offers]
  · unfold F_Receipt_groups mkFn f_Receipt_groups
    simp [fld_bounds]
  · unfold F_Receipt___len__ mkFn f_Receipt___len__
    simp [fld_offers]
theorem eBinO_e (c0 : Str) (ty : Sto → PV → Bool) (F : Fn) (fa fb : EF PV) {e : PL.Env} : eBinO c0 ty F fa fb e st = (fa e st).bind fun p st => (fb e st).bind fun q st => if isIns c0 st p = true ∧ ty st q = true then (F [p, q] st).noE else .stuck := rfl
theorem less_turn (h : RcOk c ds gs) (hc : Cln st) {k : Nat} (hk : k < ds.length) {L : List PV} (hL : L.length < 100) {x0 : EV} :
    t__law_family_0 [x0, .val (rcV c ds gs), .own L, .val (.int (k : Int))] st = .nx [x0, .val (rcV c ds gs), .own (L ++ [rcV c (ds.eraseIdx k) (gsW gs k)]), .val (.int (k : Int))] st := by
  have s := sub_e h hc hk
  have ii : isIns "Receipt" st (rcV c ds gs) = true := rfl
  have ip : isIntP st (.int (k : Int)) = true := rfl
  have l2 : L.length < 16777216 := by omega
  generalize rcV c (ds.eraseIdx k) (gsW gs k) = S at *
  generalize rcV c ds gs = R at *
  have t1 : eBinO "Receipt" isIntP F_Receipt___sub__ (eVar 1) (eVar 3) [x0, .val R, .own L, .val (.int (k : Int))] st = .ok S st := by
    rw [eBinO_e]
    simp [ii, ip, s]
  unfold t__law_family_0
  simp [t1, LINE_val, l2]
theorem less_loop (h : RcOk c ds gs) (hc : Cln st) {x0 : EV} : ∀ (ks : List Nat) (F : List Tri) (x3 : EV), (∀ k ∈ ks, k < ds.length) → F.length + ks.length < 100 → (∀ t ∈ F, TriOk t) →
    ∃ (F' : List Tri) (y3 : EV), forLoop (bName 3) t__law_family_0 (ks.map fun k : Nat => PV.int (k : Int)) [x0, .val (rcV c ds gs), .own (F.map rcT), x3] st = .nx [x0, .val (rcV c ds gs), .own (F'.map rcT), y3] st ∧ (∀ t ∈ F', TriOk t) ∧ F'.length = F.length + ks.length
  | [], F, x3, _, _, hF => ⟨F, x3, rfl, hF, rfl⟩
  | k :: ks, F, x3, hk, hl, hF => by
    rw [List.length_cons] at hl
    have t := less_turn h hc (hk k List.mem_cons_self) (L := F.map rcT) (by rw [List.length_map]; omega) (x0 := x0)
    have e0 : F.map rcT ++ [rcV c (ds.eraseIdx k) (gsW gs k)] = (F ++ [(c, ds.eraseIdx k, gsW gs k)]).map rcT := by rw [List.map_append]; rfl
    rw [e0] at t
    obtain ⟨F', y3, e, o, l⟩ := less_loop h hc (x0 := x0) ks (F ++ [(c, ds.eraseIdx k, gsW gs k)]) (.val (.int (k : Int))) (fun j hj => hk j (List.mem_cons_of_mem _ hj)) (by rw [List.length_append, List.length_singleton]; omega) fun t ht => by
      rcases List.mem_append.mp ht with ht | ht
      · exact hF t ht
      · rw [List.mem_singleton.mp ht]
        exact rc_less h (hk k List.mem_cons_self)
    exact ⟨F', y3, by rw [List.map_cons, forLoop_nx (by simp) t, e], o, by rw [l, List.length_append, List.length_singleton, List.length_cons]; omega⟩
theorem lim_loop (h : RcOk c ds gs) : ∀ (ks : List Nat) (F : List Tri) (x3 : EV) (st : Sto) (m : Nat), PenAt st n m → m + ks.length ≤ 700000 → (∀ k ∈ ks, k < gs.length) → F.length + ks.length < 100 → (∀ t ∈ F, TriOk t) →
    ∃ (F' : List Tri) (y3 : EV) (st' : Sto), forLoop (bName 3) t__law_family_1 (ks.map fun k : Nat => PV.int (k : Int)) [.val (.gl n), .val (rcV c ds gs), .own (F.map rcT), x3] st = .nx [.val (.gl n), .val (rcV c ds gs), .own (F'.map rcT), y3] st' ∧ (∀ t ∈ F', TriOk t) ∧ F'.length = F.length + ks.length ∧ PenAt st' n (m + ks.length)
  | [], F, x3, st, m, P, _, _, _, hF => ⟨F, x3, st, rfl, hF, rfl, P⟩
  | k :: ks, F, x3, st, m, P, hm, hk, hl, hF => by
    rw [List.length_cons] at hl hm
    obtain ⟨a, s1, e1, a0, a1, P1, _⟩ := draw_spec (k := 6) P (by omega) (by omega) (by omega)
    have hkk := hk k List.mem_cons_self
    have li := limited_e h P1.cln hkk (x := a) a0 (by omega)
    have ok := rc_lim h hkk (x := a) a0 (by omega)
    have t : t__law_family_1 [.val (.gl n), .val (rcV c ds gs), .own (F.map rcT), .val (.int (k : Int))] st = .nx [.val (.gl n), .val (rcV c ds gs), .own ((F ++ [(c, ds, limG gs k a)]).map rcT), .val (.int (k : Int))] s1 := by
      have i1 : isInsNo "Receipt" "limited" st (rcV c ds gs) = true := rfl
      have e0 : (F ++ [(c, ds, limG gs k a)]).map rcT = F.map rcT ++ [rcV c ds (limG gs k a)] := by rw [List.map_append]; rfl
      have l2 : (F.map rcT).length < 16777216 := by rw [List.length_map]; omega
      rw [e0]
      generalize F.map rcT = L at *
      generalize rcV c ds (limG gs k a) = S at *
      generalize rcV c ds gs = R at *
      unfold t__law_family_1
      simp [i1, e1, li, LINE_val, l2]
    obtain ⟨F', y3, s2, e, o, l, P2⟩ := lim_loop h ks (F ++ [(c, ds, limG gs k a)]) (.val (.int (k : Int))) s1 (m + 1) P1 (by omega) (fun j hj => hk j (List.mem_cons_of_mem _ hj)) (by rw [List.length_append, List.length_singleton]; omega) fun t ht => by
      rcases List.mem_append.mp ht with ht | ht
      · exact hF t ht
      · rw [List.mem_singleton.mp ht]
        exact ok
    exact ⟨F', y3, s2, by rw [List.map_cons, forLoop_nx (by simp) t, e], o, by rw [l, List.length_append, List.length_singleton, List.length_cons]; omega, P2.mono (by rw [List.length_cons]; omega)⟩
theorem rg_nat (k : Nat) : rangeF 0 k = (List.range k).map fun k : Nat => PV.int (k : Int) := by
  unfold rangeF
  simp
theorem family_e (h : RcOk c ds gs) {m : Nat} (P : PenAt st n m) (hm : m ≤ 400000) : ∃ (F : List Tri) (st' : Sto), F__law_family [.gl n, rcV c ds gs] st = .ok (.lst (F.map rcT)) st' ∧ (∀ t ∈ F, TriOk t) ∧ F.length ≤ 20 ∧ PenAt st' n (m + 20) := by
  have d5 := h.dok.1
  have g5 := h.gok.1
  have hc := P.cln
  have ok1 := rc_bare h (ds' := ds.reverse) (fun d hd => List.mem_reverse.mp hd) (by rw [List.length_reverse]; exact d5)
  have ok2 := rc_bare h (ds' := ds) (fun d hd => hd) d5
  have m1 := fam_make ok1 hc
  have m2 := fam_make ok2 hc
  have l2 : (3 : Nat) ≤ 16777216 := by omega
  have rv : revF (dealsV ds) = some (dealsV ds.reverse) := by
    show some (PV.tup (ds.map dealV).reverse) = _
    rw [← List.map_reverse]
  -- the first ones
  obtain ⟨F0, hF0⟩ : ∃ F0 : List Tri, F0 = [(c, ds, gs), (c, ds.reverse, []), (c, ds, [])] := ⟨_, rfl⟩
  have o0 : ∀ t ∈ F0, TriOk t := fun t ht => by
    rw [hF0] at ht
    simp only [List.mem_cons, List.not_mem_nil, or_false] at ht
    rcases ht with rfl | rfl | rfl
    · exact h
    · exact ok1
    · exact ok2
  have i0 : isIns "Receipt" st (rcV c ds gs) = true := rfl
  obtain ⟨p1, p2, p3, p4⟩ := prop_facts (st := st) (c := c) (ds := ds) (gs := gs)
  have a0 : ∀ b : SF, sSeq (sAsgO 2 (lDisp (aCons (eVar 1) (aCons (eMake "Receipt" F_Receipt___init__ 2 0 4 [.tup [], .tup []] [.pos 1, .pos 2, .dfl 1] (aCons (eProp "Receipt" F_Receipt_prices (eVar 1)) (aCons (eRev (eProp "Receipt" F_Receipt_deals (eVar 1))) aNil)) aNil) (aCons (eMake "Receipt" F_Receipt___init__ 2 0 4 [.tup [], .tup []] [.pos 1, .pos 2, .dfl 1] (aCons (eProp "Receipt" F_Receipt_prices (eVar 1)) (aCons (eProp "Receipt" F_Receipt_deals (eVar 1)) aNil)) aNil) aNil))))) b [.val (.gl n), .val (rcV c ds gs), .non, .non] st =
      b [.val (.gl n), .val (rcV c ds gs), .own (F0.map rcT), .non] st := fun b => by
    have e0 : F0.map rcT = [rcV c ds gs, rcV c ds.reverse [], rcV c ds []] := by rw [hF0]; rfl
    rw [e0]
    generalize rcV c ds.reverse [] = R1 at *
    generalize rcV c ds [] = R2 at *
    generalize rcV c ds gs = R at *
    generalize dealsV ds.reverse = D1 at *
    generalize dealsV ds = D at *
    generalize intsV c = C at *
    simp [i0, p1, p2, rv, m1, m2, plan, Src.get, LINE_val]
  -- a deal more
  obtain ⟨F1, s1, P1, o1, l1, a1⟩ : ∃ (F1 : List Tri) (s1 : Sto), PenAt s1 n (m + 10) ∧ (∀ t ∈ F1, TriOk t) ∧ F1.length ≤ 5 ∧ ∀ b : SF, sSeq (sIf (tV (eOp ltF (eOwn1 "Receipt" zLen F_Receipt___len__ (eVar 1)) (eC (.int 5)))) (sSeq (sAsgO 2 (lAdd (eOwn 2) (eLst (lDisp (aCons (eBinO "Receipt" isTupP F_Receipt___add__ (eVar 1) (eTup aNil)) (aCons (eBinO "Receipt" isTupP F_Receipt___add__ (eVar 1) (eCall F__law_deal (aCons (eVar 0) (aCons (eProp "Receipt" F_Receipt_prices (eVar 1)) (aCons (eC (.int 9999)) aNil))))) aNil)))))) sNil) sNil) b [.val (.gl n), .val (rcV c ds gs), .own (F0.map rcT), .non] st =
      b [.val (.gl n), .val (rcV c ds gs), .own (F1.map rcT), .non] s1 := by
    have zl : zLen (.int (ds.length : Int)) = true := zLen_ok (by omega)
    by_cases q : ds.length < 5
    · obtain ⟨d, s1, e1, hd, P1, _⟩ := deal_spec h.cok (most := 9999) (by omega) (by omega) P (by omega)
      have dn : DealOk c [] := ⟨by simp, .nil⟩
      obtain ⟨ad1, okA⟩ := add_e h hc (by omega) dn
      obtain ⟨ad2, okB⟩ := add_e h P1.cln (by omega) hd
      refine ⟨F0 ++ [(c, ds ++ [[]], gs), (c, ds ++ [d], gs)], s1, P1, fun t ht => ?_, by rw [hF0]; simp, fun b => ?_⟩
      · rcases List.mem_append.mp ht with ht | ht
        · exact o0 t ht
        · simp only [List.mem_cons, List.not_mem_nil, or_false] at ht
          rcases ht with rfl | rfl
          · exact okA
          · exact okB
      · have e0 : (F0 ++ [(c, ds ++ [[]], gs), (c, ds ++ [d], gs)]).map rcT = F0.map rcT ++ [rcV c (ds ++ [[]]) gs, rcV c (ds ++ [d]) gs] := by rw [List.map_append]; rfl
        have lF : (F0.map rcT).length + 2 ≤ 16777216 := by rw [List.length_map, hF0]; simp
        have i1 : isIns "Receipt" s1 (rcV c ds gs) = true := rfl
        have tu0 : isTupP st (.tup []) = true := rfl
        have tu1 : isTupP s1 (dealV d) = true := rfl
        have qi : (ds.length : Int) < 5 := by omega
        have ad1 : F_Receipt___add__ [rcV c ds gs, .tup []] st = .ok (rcV c (ds ++ [[]]) gs) st := ad1
        rw [e0]
        generalize F0.map rcT = L at *
        generalize rcV c (ds ++ [[]]) gs = RA at *
        generalize rcV c (ds ++ [d]) gs = RB at *
        generalize rcV c ds gs = R at *
        generalize dealV d = D1 at *
        generalize intsV c = C at *
        have t1 : eBinO "Receipt" isTupP F_Receipt___add__ (eVar 1) (eTup aNil) [.val (.gl n), .val R, .own L, .non] st = .ok RA st := by
          rw [eBinO_e]
          simp [LINE_val]
          rw [if_pos ⟨i0, tu0⟩, ad1]
          rfl
        have t2 : eBinO "Receipt" isTupP F_Receipt___add__ (eVar 1) (eCall F__law_deal (aCons (eVar 0) (aCons (eProp "Receipt" F_Receipt_prices (eVar 1)) (aCons (eC (.int 9999)) aNil)))) [.val (.gl n), .val R, .own L, .non] st = .ok RB s1 := by
          rw [eBinO_e]
          simp [i0, p1, e1]
          rw [if_pos ⟨i1, tu1⟩, ad2]
          rfl
        simp [i0, p4, zl, qi, t1, t2, LINE_val, lF]
    · refine ⟨F0, st, P.mono (by omega), o0, by rw [hF0]; simp, fun b => ?_⟩
      have qi : ¬ (ds.length : Int) < 5 := by omega
      generalize rcV c ds gs = R at *
      simp [i0, p4, zl, qi]
  -- a deal less
  obtain ⟨F2, y3, e2, o2, l2'⟩ := less_loop h P1.cln (x0 := .val (.gl n)) (List.range ds.length) F1 .non (fun k hk => List.mem_range.mp hk) (by rw [List.length_range]; omega) o1
  rw [List.length_range] at l2'
  obtain ⟨F3, z3, s3, e3, o3, l3, P3⟩ := lim_loop h (List.range gs.length) F2 y3 s1 (m + 10) P1 (by rw [List.length_range]; omega) (fun k hk => List.mem_range.mp hk) (by rw [List.length_range]; omega) o2
  rw [List.length_range] at l3 P3
  refine ⟨F3, s3, ?_, o3, by omega, P3.mono (by omega)⟩
  rw [← rg_nat] at e2 e3
  have i1 : isIns "Receipt" s1 (rcV c ds gs) = true := rfl
  obtain ⟨_, _, q3, q4⟩ := prop_facts (st := s1) (c := c) (ds := ds) (gs := gs)
  have zl : zLen (.int (ds.length : Int)) = true := zLen_ok (by omega)
  have b1 : -(16777216 : Int) ≤ (ds.length : Int) := by omega
  have b2 : (ds.length : Int) ≤ 16777216 := by omega
  have b3 : -(16777216 : Int) ≤ (gs.length : Int) := by omega
  have b4 : (gs.length : Int) ≤ 16777216 := by omega
  have lg : lenF [grpsV gs] = some (.int (gs.length : Int)) := by
    show some (PV.int ((gs.map grpV).length : Int)) = _
    rw [List.length_map]
  have w0 : w__law_family_0 [.val (.gl n), .val (rcV c ds gs), .own (F1.map rcT), .non] s1 = .nx [.val (.gl n), .val (rcV c ds gs), .own (F2.map rcT), y3] s1 := by
    generalize rcV c ds gs = R at *
    unfold w__law_family_0
    simp [i1, q4, zl, LINE_val, b1, b2, e2]
  have w1 : w__law_family_1 [.val (.gl n), .val (rcV c ds gs), .own (F2.map rcT), y3] s1 = .nx [.val (.gl n), .val (rcV c ds gs), .own (F3.map rcT), z3] s3 := by
    generalize rcV c ds gs = R at *
    generalize grpsV gs = G at *
    unfold w__law_family_1
    simp [i1, q3, lg, LINE_val, b3, b4, e3]
  unfold F__law_family mkFn f__law_family
  show (match (sSeq _ _ [.val (.gl n), .val (rcV c ds gs), .non, .non] st) with | .nx _ st => RE.ok PV.non st | .rt v st => .ok v st | .exc x _ st => .exc x st | _ => .stuck) = _
  rw [a0, a1]
  simp [w0, w1]
end
end Q09
namespace Q09
open PySem PySem.Spec L2 PL Rc
section
variable {st : Sto} {c : List Int} {ds : List Deal} {gs : List Grp} {n : Nat}
theorem neF_bb (p q : Bool) : neF (.bl p) (.bl q) = some (.bl (!(p == q))) := rfl
theorem ne_nn : neF (.lst []) (.lst []) = some (.bl (!decide (([] : List Int) = []))) := encI.lst.neGv (by decide) [] []
theorem oth_lc {F : List Tri} {t : Tri} (hF : ∀ u ∈ F, TriOk u) (ht : TriOk t) {x0 x1 x2 x3 x4 x5 x6 x7 x8 x9 x10 x13 : EV} :
    l_law_0 [x0, x1, x2, x3, x4, x5, x6, x7, x8, x9, x10, .val (.lst (F.map rcT)), .val (rcT t), x13] st = .ok [] st := by
  have lg : lcG (fun st u => lcStep (bName 13) (tV (eOp neF (eCmpO "Receipt" false F_Receipt___eq__ (eVar 12) (eVar 13)) (eOp eqF (eMeth "Receipt" "text" F_Receipt_text (eVar 12) aNil) (eMeth "Receipt" "text" F_Receipt_text (eVar 13) aNil)))) (eC (.int 1)) [x0, x1, x2, x3, x4, x5, x6, x7, x8, x9, x10, .val (.lst (F.map rcT)), .val (rcT t), .non] st (rcT u)) F st = .ok ((F.filter fun _ => false).map fun _ => PV.int 1) st :=
    lcG_ifAt fun u hu => by
      have q := tri_eq (st := st) t u
      have t1 : F_Receipt_text [rcT t] st = .ok (.str (txT t)) st := text_e ht
      have t2 : F_Receipt_text [rcT u] st = .ok (.str (txT u)) st := text_e (hF u hu)
      have e : eqF (.str (txT t)) (.str (txT u)) = some (.bl (decide (t = u))) := by
        show some (PV.bl (decide (txT t = txT u))) = _
        rw [decide_eq_decide.mpr (tx_inj ht (hF u hu))]
      have i1 : isIns "Receipt" st (rcT t) = true := rfl
      have i2 : isIns "Receipt" st (rcT u) = true := rfl
      have m1 : isInsNo "Receipt" "text" st (rcT t) = true := rfl
      have m2 : isInsNo "Receipt" "text" st (rcT u) = true := rfl
      generalize decide (t = u) = b at *
      generalize txT t = z1 at *
      generalize txT u = z2 at *
      generalize rcT t = A at *
      generalize rcT u = B at *
      have nb := neF_bb b b
      rw [beq_self_eq_true] at nb
      simp [lcStep_e, i1, i2, m1, m2, q, t1, t2, e, nb]
  unfold l_law_0
  simp [lcLoop_G, lg]
theorem one_turn {F : List Tri} {t : Tri} (hF : ∀ u ∈ F, TriOk u) (ht : TriOk t) (hc : Cln st) {x0 x1 x2 x3 x4 x5 x6 x7 x8 x9 x10 x13 : EV} :
    t_law_1 [x0, x1, x2, x3, x4, x5, x6, x7, x8, x9, x10, .val (.lst (F.map rcT)), .val (rcT t), x13] st = .nx [x0, x1, x2, x3, x4, x5, x6, x7, x8, x9, x10, .val (.lst (F.map rcT)), .val (rcT t), x13] st := by
  have lc := oth_lc (st := st) hF ht (x0 := x0) (x1 := x1) (x2 := x2) (x3 := x3) (x4 := x4) (x5 := x5) (x6 := x6) (x7 := x7) (x8 := x8) (x9 := x9) (x10 := x10) (x13 := x13)
  have t1 : F_Receipt_text [rcT t] st = .ok (.str (txT t)) st := text_e ht
  have rd : F_Receipt_read [.cls "Receipt", .str (txT t)] st = .ok (rcT t) st := read_e ht hc
  have q := tri_eq (st := st) t t
  rw [decide_eq_true rfl] at q
  have sm := same_tx (st := st) ht
  have i1 : isIns "Receipt" st (rcT t) = true := rfl
  have m1 : isInsNo "Receipt" "text" st (rcT t) = true := rfl
  have nn := ne_nn
  rw [decide_eq_true rfl] at nn
  generalize txT t = z1 at *
  generalize rcT t = A at *
  generalize F.map rcT = L at *
  unfold t_law_1
  simp [m1, t1, rd, i1, q, sm, lc, nn, LINE_val]
theorem one_loop {F : List Tri} (hF : ∀ u ∈ F, TriOk u) (hc : Cln st) {x0 x1 x2 x3 x4 x5 x6 x7 x8 x9 x10 x13 : EV} : ∀ (G : List Tri) (x12 : EV), (∀ t ∈ G, TriOk t) →
    ∃ y12 : EV, forLoop (bName 12) t_law_1 (G.map rcT) [x0, x1, x2, x3, x4, x5, x6, x7, x8, x9, x10, .val (.lst (F.map rcT)), x12, x13] st = .nx [x0, x1, x2, x3, x4, x5, x6, x7, x8, x9, x10, .val (.lst (F.map rcT)), y12, x13] st
  | [], x12, _ => ⟨x12, rfl⟩
  | t :: G, x12, hG => by
    have e1 := one_turn (st := st) hF (hG t List.mem_cons_self) hc (x0 := x0) (x1 := x1) (x2 := x2) (x3 := x3) (x4 := x4) (x5 := x5) (x6 := x6) (x7 := x7) (x8 := x8) (x9 := x9) (x10 := x10) (x13 := x13)
    obtain ⟨y12, e2⟩ := one_loop hF hc (x0 := x0) (x1 := x1) (x2 := x2) (x3 := x3) (x4 := x4) (x5 := x5) (x6 := x6) (x7 := x7) (x8 := x8) (x9 := x9) (x10 := x10) (x13 := x13) G (.val (rcT t)) fun u hu => hG u (List.mem_cons_of_mem _ hu)
    exact ⟨y12, by rw [List.map_cons, forLoop_nx (by simp) e1, e2]⟩
theorem read_turn (h : RcOk c ds gs) (hc : Cln st) {x0 x1 x2 x3 x4 x5 x6 x9 x10 x11 x12 x13 : EV} :
    t_law_0 [x0, x1, x2, x3, x4, x5, x6, .val (.str (textT c ds gs)), .val (dueV c ds gs), x9, x10, x11, x12, x13] st = .nx [x0, x1, x2, x3, x4, x5, x6, .val (.str (textT c ds gs)), .val (dueV c ds gs), x9, .val (rcV c ds gs), x11, x12, x13] st := by
  have rd := read_e h hc
  have t1 := text_e (st := st) h
  have se := seen_e (st := st) h
  have tm : Tm 5 60000 (.lst [.str (textT c ds gs), dueV c ds gs]) := (tm_lstI (d := 4) (w := 29134) (n := 2) (Nat.le_refl _) fun x hx => by
    simp only [List.mem_cons, List.not_mem_nil, or_false] at hx
    rcases hx with rfl | rfl
    · exact (sm_str (text_ok h)).tm.mono (by decide) (by decide)
    · exact (sm_due h).tm.mono (by decide) (by decide)).mono (by decide) (by decide)
  have sm := same_e (st := st) (tm.same (by decide) (by decide))
  have m1 : isInsNo "Receipt" "text" st (rcV c ds gs) = true := rfl
  generalize textT c ds gs = z at *
  generalize dueV c ds gs = D at *
  generalize rcV c ds gs = R at *
  unfold t_law_0
  simp [rd, m1, t1, se, LINE_val, sm]
theorem lap {ns : List Int} {m : Nat} (P : PenAt st n m) (hm : m ≤ 300000) {x1 x3 x4 x5 x6 x7 x8 x9 x10 x11 x12 x13 : EV} :
    ∃ (st' : Sto) (y4 y5 y6 y7 y8 y9 y10 y11 y12 : EV), t_law_2 [.val (.scr ns), x1, .val (.gl n), x3, x4, x5, x6, x7, x8, x9, x10, x11, x12, x13] st = .nx [.val (.scr ns), x1, .val (.gl n), x3, y4, y5, y6, y7, y8, y9, y10, y11, y12, x13] st' ∧ PenAt st' n (m + 220) := by
  obtain ⟨c, ds, gs, s1, e1, ok, P1⟩ := receipt_spec (p := 5) (q := 5) (by decide) (by decide) P (by omega)
  obtain ⟨F, s2, e2, hF, lF, P2⟩ := family_e ok P1 (by omega)
  have lt := ltext_e (st := s1) ok
  have du := due_e (st := s1) ok
  have hc1 := P1.cln
  have hc2 := P2.cln
  obtain ⟨y12, e3⟩ := one_loop hF hc2 (x0 := .val (.scr ns)) (x1 := x1) (x2 := .val (.gl n)) (x3 := x3) (x4 := .val (intsV c)) (x5 := .val (dealsV ds)) (x6 := .val (grpsV gs)) (x7 := .val (.str (textT c ds gs))) (x8 := .val (dueV c ds gs)) (x9 := .val (.int 1)) (x10 := .val (rcV c ds gs)) (x13 := x13) F x12 hF
  have w0 : w_law_0 [.val (.scr ns), x1, .val (.gl n), x3, .val (intsV c), .val (dealsV ds), .val (grpsV gs), .val (.str (textT c ds gs)), .val (dueV c ds gs), x9, x10, x11, x12, x13] s1 = .nx [.val (.scr ns), x1, .val (.gl n), x3, .val (intsV c), .val (dealsV ds), .val (grpsV gs), .val (.str (textT c ds gs)), .val (dueV c ds gs), .val (.int 1), .val (rcV c ds gs), x11, x12, x13] s1 := by
    have a := read_turn (st := s1) ok hc1 (x0 := .val (.scr ns)) (x1 := x1) (x2 := .val (.gl n)) (x3 := x3) (x4 := .val (intsV c)) (x5 := .val (dealsV ds)) (x6 := .val (grpsV gs)) (x9 := .val (.int 0)) (x10 := x10) (x11 := x11) (x12 := x12) (x13 := x13)
    have b := read_turn (st := s1) ok hc1 (x0 := .val (.scr ns)) (x1 := x1) (x2 := .val (.gl n)) (x3 := x3) (x4 := .val (intsV c)) (x5 := .val (dealsV ds)) (x6 := .val (grpsV gs)) (x9 := .val (.int 1)) (x10 := .val (rcV c ds gs)) (x11 := x11) (x12 := x12) (x13 := x13)
    have r2 : rangeF 0 2 = [.int 0, .int 1] := rfl
    generalize textT c ds gs = z at *
    generalize dueV c ds gs = D at *
    generalize rcV c ds gs = R at *
    generalize intsV c = C at *
    generalize dealsV ds = D1 at *
    generalize grpsV gs = G1 at *
    unfold w_law_0
    simp [LINE_val, r2, forLoop, a, b]
  refine ⟨s2, .val (intsV c), .val (dealsV ds), .val (grpsV gs), .val (.str (textT c ds gs)), .val (dueV c ds gs), .val (.int 1), .val (rcV c ds gs), .val (.lst (F.map rcT)), y12, ?_, P2⟩
  generalize F.map rcT = L at *
  generalize textT c ds gs = z at *
  generalize dueV c ds gs = D at *
  generalize rcV c ds gs = R at *
  generalize intsV c = C at *
  generalize dealsV ds = D1 at *
  generalize grpsV gs = G1 at *
  unfold t_law_2 w_law_1
  simp [e1, LINE_val, lt, du, w0, e2, e3]
theorem laps {ns : List Int} {x1 : EV} : ∀ (items : List PV) (st : Sto) (m : Nat) (x3 x4 x5 x6 x7 x8 x9 x10 x11 x12 x13 : EV), PenAt st n m → m + 220 * items.length ≤ 300000 →
    ∃ (st' : Sto) (y3 y4 y5 y6 y7 y8 y9 y10 y11 y12 : EV), forLoop (bName 3) t_law_2 items [.val (.scr ns), x1, .val (.gl n), x3, x4, x5, x6, x7, x8, x9, x10, x11, x12, x13] st = .nx [.val (.scr ns), x1, .val (.gl n), y3, y4, y5, y6, y7, y8, y9, y10, y11, y12, x13] st' ∧ Cln st'
  | [], st, m, x3, x4, x5, x6, x7, x8, x9, x10, x11, x12, x13, P, _ => ⟨st, x3, x4, x5, x6, x7, x8, x9, x10, x11, x12, rfl, P.cln⟩
  | x :: items, st, m, x3, x4, x5, x6, x7, x8, x9, x10, x11, x12, x13, P, hm => by
    rw [List.length_cons] at hm
    obtain ⟨s1, y4, y5, y6, y7, y8, y9, y10, y11, y12, e1, P1⟩ := lap (ns := ns) P (by omega) (x1 := x1) (x3 := .val x) (x4 := x4) (x5 := x5) (x6 := x6) (x7 := x7) (x8 := x8) (x9 := x9) (x10 := x10) (x11 := x11) (x12 := x12) (x13 := x13)
    obtain ⟨s2, z3, z4, z5, z6, z7, z8, z9, z10, z11, z12, e2, c2⟩ := laps (ns := ns) (x1 := x1) items s1 (m + 220) (.val x) y4 y5 y6 y7 y8 y9 y10 y11 y12 x13 P1 (by omega)
    exact ⟨s2, z3, z4, z5, z6, z7, z8, z9, z10, z11, z12, by rw [forLoop_nx (by simp) e1, e2], c2⟩
theorem cells {ns : List Int} : ∀ (items : List Int) (st : Sto) (x1 x2 x3 x4 x5 x6 x7 x8 x9 x10 x11 x12 x13 : EV), Cln st →
    ∃ (st' : Sto) (e' : PL.Env), forLoop (bName 1) t_law_3 (items.map PV.int) [.val (.scr ns), x1, x2, x3, x4, x5, x6, x7, x8, x9, x10, x11, x12, x13] st = .nx e' st' ∧ Cln st'
  | [], st, x1, x2, x3, x4, x5, x6, x7, x8, x9, x10, x11, x12, x13, hc => ⟨st, _, rfl, hc⟩
  | c :: items, st, x1, x2, x3, x4, x5, x6, x7, x8, x9, x10, x11, x12, x13, hc => by
    obtain ⟨s1, e1, P1⟩ := pen_spec c hc
    have h7 : (rangeF 0 7).length = 7 := rangeF_len ..
    obtain ⟨s2, z3, z4, z5, z6, z7, z8, z9, z10, z11, z12, e2, c2⟩ := laps (ns := ns) (x1 := .val (.int c)) (rangeF 0 7) s1 0 x3 x4 x5 x6 x7 x8 x9 x10 x11 x12 x13 P1 (by rw [h7]; decide)
    obtain ⟨s3, e', e3, c3⟩ := cells items s2 (.val (.int c)) (.val (.gl st.length)) z3 z4 z5 z6 z7 z8 z9 z10 z11 z12 x13 c2
    have turn : t_law_3 [.val (.scr ns), .val (.int c), x2, x3, x4, x5, x6, x7, x8, x9, x10, x11, x12, x13] st = .nx [.val (.scr ns), .val (.int c), .val (.gl st.length), z3, z4, z5, z6, z7, z8, z9, z10, z11, z12, x13] s2 := by
      unfold t_law_3 w_law_2
      simp [e1, LINE_val, e2]
    exact ⟨s3, e', by rw [List.map_cons, forLoop_nx (by simp) turn, e3], c3⟩
theorem tx7 : textT [7] [] [] = ("prices 7\n" : Str) := by decide +kernel
theorem law_true (ns : List Int) (hn : ns.length ≤ 63) : ∃ st, F_law [.scr ns] [] = .ok (.bl true) st := by
  obtain ⟨c, ec⟩ := cell_spec ns 0 []
  have ec : F__law_cell_at [.scr ns, .int 0] [] = .ok (.int c) [] := ec
  have cl := cut_len (l := ns.map PV.int) (lo := some 1) (hi := some 3)
  rw [List.length_map] at cl
  obtain ⟨m, em, _, lm⟩ := cut_map PV.int ns (some 1) (some 3)
  have ad := addF_lst (l := [PV.int c]) (m := cutF (ns.map PV.int) (some 1) (some 3)) (by rw [List.length_singleton]; omega)
  obtain ⟨s1, e', e1, c1⟩ := cells (ns := ns) (c :: m) [] .non .non .non .non .non .non .non .non .non .non .non .non .non (fun c hc => by cases hc)
  have e1 : forLoop (bName 1) t_law_3 (PV.int c :: cutF (ns.map PV.int) (some 1) (some 3)) [.val (.scr ns), .non, .non, .non, .non, .non, .non, .non, .non, .non, .non, .non, .non, .non] [] = .nx e' s1 := by
    rw [em]
    exact e1
  have h7 := rc_seven
  have mk := make_ok (st := s1) h7 c1
  have t7 := text_e (st := s1) h7
  have sm := same_e (st := s1) ((sm_str (text_ok h7)).tm.same (by decide) (by decide))
  rw [tx7] at t7 sm
  have mk : makF "Receipt" F_Receipt___init__ [.tup [.int 7], .tup [], .tup []] s1 = .ok (rcV [7] [] []) s1 := mk
  have m1 : isInsNo "Receipt" "text" s1 (rcV [7] [] []) = true := rfl
  refine ⟨s1, ?_⟩
  generalize rcV [7] [] [] = R at *
  unfold F_law mkFn f_law w_law_3
  simp only [List.cons_append, List.nil_append] at e1 ad
  simp [LINE_val, ec, slF, ad, e1, mk, plan, Src.get, m1, t7, sm]
end
end Q09
theorem PySem.Challenge.cw_joineddeals_k09_texts_there_and_back_holds : PySem.Challenge.rw_joineddeals_k09_texts_there_and_back.Holds :=
  holds_of fun ns h => Q09.law_true ns h
