import PyProof.Rows.All
import Wide.All
import OpenK.AllK
import Wide.FinOn
import PyProof.ReprReads
import HandS.Exc
import HandS.ExcField
import HandS.Head0
import HandS.Head1
import HandS.Head2
import HandS.HeadEnd
import HandS.HeadHook1
import HandS.HeadHook2
import HandS.HeadHook3
import KE.KExcInit
import KE.SortData
import KE.DataMinMax
import KE.DataEq
import KE.DataFind
import KE.DatumOrd
import HandS.Codes
import PyProof.ReprLen
import HandS.ForMost
import HandS.ExcCtx
import HandS.HotCalls
import HandS.ExcOwn
import HandS.TryOnly
import HandS.Defaults
import HandS.Wide
import HandS.Text
import HandS.Dict
import HandS.TupAny
import HandS.IsInst
import PyProof.ReprRoads
import HandS.Set
import HandS.ReCall
import HandS.More
import HandS.Strs
import HandS.Iter
import HandS.MakeKw
import HandS.SetFor
import HandS.SetKeys
import KE.GoesEnum
import HandS.Zip
import HandS.SortKw
import HandS.Style
import PyProof.SumAny
import KE.KExcIs
import HandS.ExcIs
import PyProof.ExcBaseAll.ValueError
import HandS.TupMul
import PyProof.ListRange
import HandS.Conv
import HandS.ExcInit
import HandS.ExcInitHot
import PyProof.MinMaxWalk
import PyProof.WalkInts
import HandS.ListItems
import KE.KDictList
import KE.KDictCopyH
import HandS.Ends
import HandS.DictComp
import PyProof.DictUpdate
import KE.GoesZip
import KE.GoesMore
import HandS.NoneIn
import HandS.ReplaceLit
import HandS.ReplaceList
import PyProof.ExcBaseAll.LookupError
import HandS.ExcValue
import KE.SortKeyHeap
import HandS.Keys
import HandS.OwnEq
import PyProof.NeKinds
import PyProof.FactsAll.dict_1
import PyProof.FactsAll.dict_2
import KE.KEqDict
import HandS.FStr
import PySem.Challenge.RW_dimcellar_k04_errors_of_two_families
set_option Elab.async false
set_option linter.all false
set_option maxRecDepth 100000
/-! PICore: values as trees, the state of my own evaluator, its combinators. No program in sight, no heap of the model. -/
namespace PI
open PySem
/-- data as a tree. tupw: a tuple of which less is known (pairs of enumerate, zip, items; keys). obj: the n-th shared changeable object; fn, cls: the program's own defs and classes by numbers -/
inductive D where
  | non | bl (b : Bool) | int (i : Int) | str (cs : List Nat)
  | tup (xs : List D) | tupw (xs : List D) | lst (xs : List D) | dic (kvs : List (D × D))
  | ins (c : Nat) (fs : List (Nat × D))
  | exn (c : Nat) (fs : List (Nat × D))
  | obj (n : Nat) | fn (f : Nat) | cls (c : Nat) | ty (n : String)
  deriving Inhabited
/-- a changeable object's content -/
inductive MO where
  | lst (xs : List D) | dic (kvs : List (D × D)) | ins (c : Nat) (fs : List (Nat × D))
  deriving Inhabited
def MO.snap : MO → D
  | .lst xs => .lst xs
  | .dic kvs => .dic kvs
  | .ins c fs => .ins c fs
/-- what an expression gives: a value, or a new object that nobody else holds -/
inductive SV where
  | val (d : D) | own (m : MO)
  deriving Inhabited
def SV.d : SV → D
  | .val d => d
  | .own m => m.snap
abbrev Env := List (Option SV)
abbrev MH := List MO
/-- an exception: its class, its fields -/
structure Xn where
  c : Nat
  fs : List (Nat × D)
inductive Res (α : Type) where
  | ok (a : α) (e : Env) (m : MH) | err (x : Xn) (e : Env) (m : MH) | stuck
abbrev EM (α : Type) := Env → MH → Res α
/-- what a def gives -/
inductive FR where
  | ok (v : SV) (m : MH) | err (x : Xn) (m : MH) | stuck
abbrev FT := List D → MH → FR
def EM.pure {α : Type} (a : α) : EM α := fun e m => .ok a e m
def Res.bind {α β : Type} : Res α → (α → EM β) → Res β
  | .ok a e m, f => f a e m
  | .err x e m, _ => .err x e m
  | .stuck, _ => .stuck
def EM.bind {α β : Type} (x : EM α) (f : α → EM β) : EM β := fun e m => (x e m).bind f
def EM.lift {α : Type} : Option α → EM α
  | some a => EM.pure a
  | none => fun _ _ => .stuck
@[simp] theorem pure_ap {α : Type} (a : α) (e : Env) (m : MH) : EM.pure a e m = .ok a e m := rfl
@[simp] theorem bind_ap {α β : Type} (x : EM α) (f : α → EM β) (e : Env) (m : MH) : EM.bind x f e m = (x e m).bind f := rfl
@[simp] theorem bind_ok {α β : Type} (a : α) (e : Env) (m : MH) (f : α → EM β) : (Res.ok a e m).bind f = f a e m := rfl
@[simp] theorem bind_err {α β : Type} (x : Xn) (e : Env) (m : MH) (f : α → EM β) : (Res.err x e m : Res α).bind f = .err x e m := rfl
@[simp] theorem bind_stuck {α β : Type} (f : α → EM β) : (Res.stuck : Res α).bind f = .stuck := rfl
@[simp] theorem lift_some {α : Type} (a : α) (e : Env) (m : MH) : EM.lift (some a) e m = .ok a e m := rfl
@[simp] theorem lift_none {α : Type} (e : Env) (m : MH) : (EM.lift (none : Option α)) e m = .stuck := rfl
/-! ### names and constants -/
def setS (e : Env) (i : Nat) (s : SV) : Env := e.set i (some s)
/-- a name, read as a value that is kept: an object of one's own becomes frozen -/
def eLoc (i : Nat) : EM SV := fun e m => match e.getD i none with
  | some (.val d) => .ok (.val d) e m
  | some (.own o) => .ok (.val o.snap) (setS e i (.val o.snap)) m
  | none => .stuck
/-- a name that is moved out (return x) -/
def eMov (i : Nat) : EM SV := fun e m => match e.getD i none with
  | some s => .ok s e m
  | none => .stuck
def eCon (d : D) : EM SV := EM.pure (.val d)
/-- an operand: a value, or the slot in which an object of one's own stands -/
inductive PV where
  | v (d : D) | sl (i : Nat)
def pLoc (i : Nat) : EM PV := fun e m => match e.getD i none with
  | some (.val d) => .ok (.v d) e m
  | some (.own _) => .ok (.sl i) e m
  | none => .stuck
def pOf (x : EM SV) : EM PV := EM.bind x fun s => EM.pure (.v s.d)
/-- what an operand holds now -/
def PV.now (p : PV) : EM D := fun e m => match p with
  | .v (.obj n) => match m[n]? with
    | some o => .ok o.snap e m
    | none => .stuck
  | .v d => .ok d e m
  | .sl i => match e.getD i none with
    | some s => .ok s.d e m
    | none => .stuck
/-- kept: frozen -/
def eUse (x : EM SV) : EM D := EM.bind x fun s => EM.pure s.d
/-- operators by values -/
def e1 (f : D → Option SV) (a : EM PV) : EM SV := EM.bind a fun x => EM.bind x.now fun x => EM.lift (f x)
def e2 (f : D → D → Option SV) (a b : EM PV) : EM SV := EM.bind a fun x => EM.bind b fun y => EM.bind x.now fun x => EM.bind y.now fun y => EM.lift (f x y)
/-! ### lists of arguments -/
def eNil {α : Type} : EM (List α) := EM.pure []
def eCons {α : Type} (a : EM α) (r : EM (List α)) : EM (List α) := EM.bind a fun x => EM.bind r fun xs => EM.pure (x :: xs)
def eTup (es : EM (List D)) : EM SV := EM.bind es fun ds => if ds.length ≤ 1000 then EM.pure (.val (.tup ds)) else fun _ _ => .stuck
def eTupW (es : EM (List D)) : EM SV := EM.bind es fun ds => if ds.length ≤ 1000 then EM.pure (.val (.tupw ds)) else fun _ _ => .stuck
def eLst (es : EM (List D)) : EM SV := EM.bind es fun ds => if ds.length ≤ 1000 then EM.pure (.own (.lst ds)) else fun _ _ => .stuck
/-! ### calls -/
def FR.to (e : Env) : FR → Res SV
  | .ok v m => .ok v e m
  | .err x m => .err x e m
  | .stuck => .stuck
/-! ### tests -/
def D.isNon : D → Bool
  | .non => true
  | _ => false
def tIsN (a : EM PV) : EM Bool := EM.bind a fun p => EM.bind p.now fun d => EM.pure d.isNon
def tIsNN (a : EM PV) : EM Bool := EM.bind a fun p => EM.bind p.now fun d => EM.pure (!d.isNon)
def truthy : D → Option Bool
  | .non => some false
  | .bl b => some b
  | .int i => some (i != 0)
  | .str cs => some (cs.length != 0)
  | .tup xs => some (!xs.isEmpty)
  | .tupw xs => some (!xs.isEmpty)
  | .lst xs => some (!xs.isEmpty)
  | .dic kvs => some (!kvs.isEmpty)
  | _ => none
/-- the truth of a value (no dict) -/
def truthyN (d : D) : Option Bool := match d with
  | .dic _ => none
  | d => truthy d
def tTruN (a : EM PV) : EM Bool := EM.bind a fun x => EM.bind x.now fun x => EM.lift (truthyN x)
def tAnd (a b : EM Bool) : EM Bool := EM.bind a fun x => if x then b else EM.pure false
def tOr (a b : EM Bool) : EM Bool := EM.bind a fun x => if x then EM.pure true else b
def tNot (a : EM Bool) : EM Bool := EM.bind a fun x => EM.pure (!x)
/-- a test's answer as a value -/
def eBool (a : EM Bool) : EM SV := EM.bind a fun x => EM.pure (.val (.bl x))
def eIte (c : EM Bool) (a b : EM SV) : EM SV := EM.bind c fun x => if x then a else b
def t2 (f : D → D → Option Bool) (a b : EM PV) : EM Bool := EM.bind a fun x => EM.bind b fun y => EM.bind x.now fun x => EM.bind y.now fun y => EM.lift (f x y)
/-- a chain of two comparisons: the middle once -/
def t3 (f g : D → D → Option Bool) (a b c : EM PV) : EM Bool := EM.bind a fun x => EM.bind b fun y => EM.bind x.now fun x => EM.bind y.now fun y' => EM.bind (EM.lift (f x y')) fun k =>
  if k then EM.bind c fun z => EM.bind y.now fun y => EM.bind z.now fun z => EM.lift (g y z) else EM.pure false
/-! ### statements -/
inductive Fl where
  | nx | bk | ct | ret (s : SV)
def sExp (x : EM SV) : EM Fl := EM.bind x fun _ => EM.pure .nx
def sRet (x : EM SV) : EM Fl := EM.bind x fun s => EM.pure (.ret s)
def sRetN : EM Fl := EM.pure (.ret (.val .non))
def sPass : EM Fl := EM.pure .nx
def sBrk : EM Fl := EM.pure .bk
def sCnt : EM Fl := EM.pure .ct
/-- targets: a name, or a tuple of targets -/
abbrev TG := D → Env → Option Env
def gNm (i : Nat) : TG := fun d e => some (setS e i (.val d))
def gGo : List TG → List D → Env → Option Env
  | [], [], e => some e
  | t :: ts, d :: ds, e => (t d e).bind fun e => gGo ts ds e
  | _, _, _ => none
def gTup (ts : List TG) : TG := fun d e => match d with
  | .tup ds => gGo ts ds e
  | .tupw ds => gGo ts ds e
  | _ => none
def TG.em (t : TG) (d : D) : EM Unit := fun e m => match t d e with
  | some e' => .ok () e' m
  | none => .stuck
/-- x = e: an own object stays one's own -/
def sSet (i : Nat) (x : EM SV) : EM Fl := EM.bind x fun s e m => .ok .nx (setS e i s) m
def sAsg (t : TG) (x : EM SV) : EM Fl := EM.bind x fun s => EM.bind (TG.em t s.d) fun _ => EM.pure .nx
def sSeq (a b : EM Fl) : EM Fl := EM.bind a fun f => match f with
  | .nx => b
  | f => EM.pure f
def sIf (c : EM Bool) (a b : EM Fl) : EM Fl := EM.bind c fun x => if x then a else b
/-- for: the items, one after another -/
def sForGo (t : TG) (b : EM Fl) : List D → EM Fl
  | [] => EM.pure .nx
  | d :: ds => EM.bind (TG.em t d) fun _ => EM.bind b fun f => match f with
    | .nx => sForGo t b ds
    | .ct => sForGo t b ds
    | .bk => EM.pure .nx
    | .ret s => EM.pure (.ret s)
def sFor (t : TG) (it : EM (List D)) (b : EM Fl) : EM Fl := EM.bind it fun ds => sForGo t b ds
/-! ### comprehensions -/
def wipeE : List Nat → Env → Env
  | [], e => e
  | v :: vs, e => (wipeE vs e).set v none
/-- the names of the comprehension's own come back as they were -/
def backE : List Nat → Env → Env → Env
  | [], _, e => e
  | v :: vs, e0, e => (backE vs e0 e).set v (e0.getD v none)
def notOwn : Option SV → Bool
  | some (.own _) => false
  | _ => true
def okOwn (own : List Nat) (e : Env) : Bool := own.all fun i => notOwn (e.getD i none)
def lcGo (t : TG) (c : EM Bool) (x : EM D) (own : List Nat) : List D → EM (List D)
  | [] => EM.pure []
  | d :: ds => fun e m => match t d (wipeE own e) with
    | none => .stuck
    | some e => (c e m).bind fun k => if k then EM.bind x fun y => EM.bind (lcGo t c x own ds) fun ys => EM.pure (y :: ys) else lcGo t c x own ds
def eLc (t : TG) (it : EM (List D)) (c : EM Bool) (x : EM D) (own : List Nat) : EM SV := EM.bind it fun ds e m => if okOwn own e then
  match lcGo t c x own ds e m with
  | .ok ys e' m' => .ok (.own (.lst ys)) (backE own e e') m'
  | _ => .stuck
  else .stuck
def tYes : EM Bool := EM.pure true
/-! ### a def -/
def startE (ns : Nat) (ds : List D) : Env := ds.map (fun d => some (SV.val d)) ++ List.replicate (ns - ds.length) none
def Res.fr : Res Fl → FR
  | .ok .nx _ m => .ok (.val .non) m
  | .ok (.ret s) _ m => .ok s m
  | .err x _ m => .err x m
  | _ => .stuck
/-- a def of np parameters, ns names in all -/
def mkF (np ns : Nat) (b : EM Fl) : FT := fun ds m => if ds.length = np then (b (startE ns ds) m).fr else .stuck
end PI
namespace PI
open PySem
/-! ### built-ins by values -/
def nowL : List PV → EM (List D)
  | [] => EM.pure []
  | p :: ps => EM.bind p.now fun d => EM.bind (nowL ps) fun ds => EM.pure (d :: ds)
/-- a built-in called: nothing is kept of the arguments -/
def eB (f : List D → Option SV) (es : EM (List PV)) : EM SV := EM.bind es fun ps => EM.bind (nowL ps) fun ds => EM.lift (f ds)
/-- the built-in types that have methods here -/
inductive Ty where
  | list | tuple | dict | str
  deriving DecidableEq
def Ty.has : Ty → D → Bool
  | .list, .lst _ => true
  | .tuple, .tup _ => true
  | .dict, .dic _ => true
  | .str, .str _ => true
  | _, _ => false
/-- a method that changes nothing -/
def eM (T : Ty) (f : D → List D → Option SV) (a : EM PV) (es : EM (List PV)) : EM SV := EM.bind a fun p => EM.bind p.now fun d0 => if T.has d0 then
  EM.bind es fun ps => EM.bind p.now fun d => EM.bind (nowL ps) fun ds => EM.lift (f d ds) else fun _ _ => .stuck
/-- the object at an operand, changed -/
def PV.chg (p : PV) (f : MO → Option (D × MO)) : EM SV := fun e m => match p with
  | .sl i => match e.getD i none with
    | some (.own o) => match f o with
      | some (d, o') => .ok (.val d) (setS e i (.own o')) m
      | none => .stuck
    | _ => .stuck
  | .v (.obj n) => match m[n]? with
    | some o => match f o with
      | some (d, o') => .ok (.val d) e (m.set n o')
      | none => .stuck
    | none => .stuck
  | _ => .stuck
/-- a method that changes its object; the arguments are kept -/
def eMut (T : Ty) (f : MO → List D → Option (D × MO)) (a : EM PV) (es : EM (List D)) : EM SV := EM.bind a fun p => EM.bind p.now fun d0 => if T.has d0 then
  EM.bind es fun ds => p.chg fun o => f o ds else fun _ _ => .stuck
/-- o[i] = v -/
def sPut (f : MO → D → D → Option MO) (v : EM D) (o : EM PV) (i : EM D) : EM Fl := EM.bind v fun d => EM.bind o fun p => EM.bind i fun k => EM.bind (p.chg fun u => (f u k d).map fun u' => (.non, u')) fun _ => EM.pure .nx
/-- and, or as values (of truths) -/
def eAndV (a b : EM SV) : EM SV := EM.bind a fun s => match s with
  | .val (.bl true) => b
  | .val (.bl false) => EM.pure (.val (.bl false))
  | _ => fun _ _ => .stuck
def eOrV (a b : EM SV) : EM SV := EM.bind a fun s => match s with
  | .val (.bl true) => EM.pure (.val (.bl true))
  | .val (.bl false) => b
  | _ => fun _ _ => .stuck
def eNotV (a : EM SV) : EM SV := EM.bind a fun s => match s with
  | .val (.bl b) => EM.pure (.val (.bl (!b)))
  | _ => fun _ _ => .stuck
end PI
namespace PI
open PySem
/-! ### what loops walk -/
def itemsOf : D → Option (List D)
  | .lst ds => some ds
  | .tup ds => some ds
  | .tupw ds => some ds
  | .str cs => some (cs.map fun c => .str [c])
  | _ => none
def itSeq (m : EM SV) : EM (List D) := EM.bind m fun s => EM.lift (itemsOf s.d)
def rangeD (lo hi : Int) : List D := (List.range (hi - lo).toNat).map fun (i : Nat) => .int (lo + i)
def itR1 (es : EM (List PV)) : EM (List D) := EM.bind es fun ps => EM.bind (nowL ps) fun ds => match ds with
  | [.int n] => if -100000 ≤ n ∧ n ≤ 100000 then EM.pure (rangeD 0 n) else fun _ _ => .stuck
  | _ => fun _ _ => .stuck
def itR2 (es : EM (List PV)) : EM (List D) := EM.bind es fun ps => EM.bind (nowL ps) fun ds => match ds with
  | [.int a, .int b] => if (-100000 ≤ a ∧ a ≤ 100000) ∧ -100000 ≤ b ∧ b ≤ 100000 then EM.pure (rangeD a b) else fun _ _ => .stuck
  | _ => fun _ _ => .stuck
end PI
namespace PI
open PySem
/-! ### dicts walked -/
def itBy (f : D → Option (List D)) (m : EM SV) : EM (List D) := EM.bind m fun s => EM.lift (f s.d)
end PI
/-! PIFa: what is asked of the head's end: the definitions alone. -/
namespace PI
open PySem PySem.Spec PyProof.Rows L2
abbrev leBF : List Value := [.type "LookupError", .type "Exception", .type "BaseException", .type "object"]
/-- where the defs, the classes stand; the fields' names -/
structure Ga where
  K : PySem.W.Frag
  fa : Nat → Addr
  ca : Nat → Addr
  fld : Nat → Str
  xs : Addr → Nat → Option Addr → Prop
  pg : Bool
def isK : D → D → Bool
  | .cls a, .cls b => a == b
  | .ty a, .ty b => a == b
  | _, _ => false
def D.isCls : D → Bool
  | .cls _ => true
  | .ty _ => true
  | _ => false
abbrev veB : List Value := [.type "ValueError", .type "Exception", .type "BaseException", .type "object"]
/-- the class value that a class stands for -/
def clsV (G : Ga) : D → Value
  | .cls n => .ref (G.ca n)
  | .ty n => .type n
  | _ => .none
def exccB (K : PySem.W.Frag) (C : Addr) : Bool :=
  (He.eqO (PySem.W.findIn K (.ref C) "__getattribute__") (some (some (.builtin "BaseException.__getattribute__"))) && He.eqO (PySem.W.findIn K (.ref C) "__getattr__") (some none)) &&
  ((decide (PySem.W.subIn K (.ref C) (.type "BaseException") = some true) && PySem.W.hasDictIn K C) && ((He.eqO (PySem.W.findIn K (.ref C) "__class__") (some (some (.builtin "object.__class__"))) &&
  He.eqO (PySem.W.specialIn K (.builtin "object.__class__") "__get__") (some (some (.builtin "getset_descriptor.__get__")))) && (decide (PySem.W.takesIn K (.builtin "object.__class__") = some true) && decide (PySem.W.mroIn K C (.type "object") = some true))))
abbrev TabS : Type := Str × List Str
/-- the names of classes, defs, tables, fields -/
def gaY (cs fs ts ds : List Str) (K : PySem.W.Frag) : Ga := ⟨K, fun i => He.ga K (fs.getD i ⟨#[]⟩), fun n => if n < 1000 then He.ga K (cs.getD n ⟨#[]⟩) else He.ga K (ts.getD (n - 1000) ⟨#[]⟩), fun i => ds.getD i ⟨#[]⟩, fun _ _ _ => False, true⟩
def smB (K : PySem.W.Frag) : Bool := match K.lookup sysModules with
  | some o => decide (o.cls = .type "dict")
  | none => false
def vOf (G : Ga) : D → V
  | .fn i => .ref (G.fa i)
  | .cls c => .ref (G.ca c)
  | .str cs => .str ⟨cs.toArray⟩
  | .int i => .int i
  | _ => .non
def D.plainV : D → Bool
  | .fn _ => true
  | .cls _ => true
  | .str cs => decide (cs.length ≤ 1000)
  | .int _ => true
  | .non => true
  | _ => false
def tupC (G : PySem.W.Frag → Ga) (x : Str) (ds : List D) (K : PySem.W.Frag) : Bool := ds.all D.plainV && match K.lookup (He.ga K x) with
  | some ⟨.type c, none, .seq its _, _⟩ => decide (c = "tuple") && (decide (its.size ≤ sizeLine) && He.relAll (ds.map (vOf (G K))) its.toList)
  | _ => false
/-- the i-th statement of a class's body -/
def clsSt (st : Stmt) (i : Nat) : Stmt := match st with
  | .ClassDef (body := b) .. => b.getD i (.Pass ⟨0, 0, 0, 0⟩)
  | _ => .Pass ⟨0, 0, 0, 0⟩
def xfFact (G : PySem.W.Frag → Ga) (n : Nat) (f : Str) (K : PySem.W.Frag) : Bool := (List.range n).all fun c => xfB K ((G K).ca c) && decide (PySem.W.findIn K (.ref ((G K).ca c)) f = some none)
abbrev biT : List String := ["NoneType", "bool", "int", "str", "tuple", "list", "dict"]
def clsB (K : PySem.W.Frag) (C : Addr) : Bool := (PySem.W.plainGet K C Str.empty && (PySem.W.hasDictIn K C && (PySem.W.plainOver K C && decide (PySem.W.findIn K (.ref C) "__setattr__" = some (some (.builtin "object.__setattr__")))))) &&
  (decide (PySem.W.findIn K (.ref C) "__class__" = some (some (.builtin "object.__class__"))) && (decide (PySem.W.specialIn K (.builtin "object.__class__") "__get__" = some (some (.builtin "getset_descriptor.__get__"))) &&
    (decide (PySem.W.takesIn K (.builtin "object.__class__") = some true) && decide (PySem.W.mroIn K C (.type "object") = some true))))
def iuFact (G : PySem.W.Frag → Ga) (lo n : Nat) (K : PySem.W.Frag) : Bool := (List.range n).all fun c => decide (c < lo) || (clsB K ((G K).ca c) &&
  ((biT.all fun T => decide (PySem.W.kitOne K (.type T) (.ref ((G K).ca c)) = some false) && (decide (T = "NoneType") || decide (PySem.W.kitOne K (.ref ((G K).ca c)) (.type T) = some false))) &&
  (List.range n).all fun d => decide (d < lo) || decide (PySem.W.kitOne K (.ref ((G K).ca c)) (.ref ((G K).ca d)) = some (c == d))))
/-- as excFactG; pl: the classes with no __init__ of their own -/
def excFactH (G : PySem.W.Frag → Ga) (n : Nat) (pl : List Nat) (mro : Nat → List D) (ks : List D) (CA : Str) (sub : Nat → Bool) (K : PySem.W.Frag) : Bool :=
  ((List.range n).all fun c => exccB K ((G K).ca c) && ((ks.all fun k => k.isCls && decide (PySem.W.kitOne K (.ref ((G K).ca c)) (clsV (G K) k) = some ((mro c).any (isK k)))) && (decide (PySem.W.exmOne K (.ref ((G K).ca c)) (.ref (He.ga K CA)) = some (sub c))))) &&
  (pl.all fun c => ((PySem.W.excIn K ((G K).ca c) veB "ValueError.__new__" && PySem.W.keepIn K (.ref ((G K).ca c))) && (decide (PySem.W.subIn K (.ref ((G K).ca c)) (.type "BaseException") = some true) && decide (PySem.W.typeIn K (.ref ((G K).ca c)) = some (.type "type")))))
def oexB (K : PySem.W.Frag) (C : Addr) : Bool := (match K.lookup C with
  | some ⟨.type "type", _, .cls cd, sl⟩ => (match cd.mro, sl.toList with
    | .ref C' :: bm, [_, _, _, _, some (.builtin n), _] => C' == C && (n == "ValueError.__new__" && (!cd.hasDel && (cd.hasDict && PySem.HandSPX.refsVE bm)))
    | _, _ => false)
  | _ => false) && (He.eqO (PySem.W.findIn K (.ref C) "__setattr__") (some (some (.builtin "object.__setattr__"))) && (decide (PySem.W.subIn K (.ref C) (.type "BaseException") = some true) && (decide (PySem.W.typeIn K (.ref C) = some (.type "type")) && PySem.W.keepIn K (.ref C))))
def keFact (G : PySem.W.Frag → Ga) (c : Nat) (fl : List Nat) (x : Str) (K : PySem.W.Frag) : Bool := oexB K ((G K).ca c) && ((fl.all fun i => He.eqO (PySem.W.findIn K (.ref ((G K).ca c)) ((G K).fld i)) (some none)) &&
  (He.eqO (PySem.W.findIn K (.ref ((G K).ca c)) "__init__") (some (some (.ref (He.fAd K (x, some "__init__"))))) && decide (PySem.W.typeIn K (.ref (He.fAd K (x, some "__init__"))) = some (.type "function"))))
def oexlB (K : PySem.W.Frag) (C : Addr) : Bool := (match K.lookup C with
  | some ⟨.type "type", _, .cls cd, sl⟩ => (match cd.mro, sl.toList with
    | .ref C' :: bm, [_, _, _, _, some (.builtin n), _] => C' == C && (n == "LookupError.__new__" && (!cd.hasDel && (cd.hasDict && PySem.W.excTail leBF bm)))
    | _, _ => false)
  | _ => false) && (He.eqO (PySem.W.findIn K (.ref C) "__setattr__") (some (some (.builtin "object.__setattr__"))) && (decide (PySem.W.subIn K (.ref C) (.type "BaseException") = some true) && (decide (PySem.W.typeIn K (.ref C) = some (.type "type")) && PySem.W.keepIn K (.ref C))))
def keFactL (G : PySem.W.Frag → Ga) (c : Nat) (fl : List Nat) (x : Str) (K : PySem.W.Frag) : Bool := oexlB K ((G K).ca c) && ((fl.all fun i => He.eqO (PySem.W.findIn K (.ref ((G K).ca c)) ((G K).fld i)) (some none)) &&
  (He.eqO (PySem.W.findIn K (.ref ((G K).ca c)) "__init__") (some (some (.ref (He.fAd K (x, some "__init__"))))) && decide (PySem.W.typeIn K (.ref (He.fAd K (x, some "__init__"))) = some (.type "function"))))
def subFact (G : PySem.W.Frag → Ga) (n : Nat) (CA : Str) (sub : Nat → Bool) (K : PySem.W.Frag) : Bool := (List.range n).all fun c => decide (PySem.W.exmOne K (.ref ((G K).ca c)) (.ref (He.ga K CA)) = some (sub c))
end PI
/-! PIFaL: what is seen at the head's end, the addresses given. -/
namespace PI
def endL (as : List PySem.Addr) (s : PySem.W.SharedT) : PySem.W.Frag := He.frG (HandSHeadRun.getT s) as
end PI
namespace L04
open PySem PI
noncomputable section
def fnNames : List Str := (["TooMany___init__", "Crowded___init__", "NoText___init__", "Full___init__", "Gone___init__", "Kept___init__", "is_whole", "is_within", "is_word", "is_size", "is_year", "Bottle___init__", "is_bottle", "age_of", "are_bottles", "check_bottles", "by_age", "_law_cell_at", "_law_pot", "_law_take", "_law_word", "_law_plain_ones", "_law_here_word", "_law_here_right", "_law_fields_right"] : List Str) ++ (["_law_raised", "law"] : List Str)
def tabNames : List Str := []
def fldNames : List Str := (["many", "most", "first", "last", "line", "room", "shelf", "number", "fate", "others", "maker", "year", "size"] : List Str)
def clsNames : List Str := (["NoBottles", "NoMaker", "NoYear", "NoSize", "NoBottle", "NoRooms", "NoHold", "NoMonth", "NoWho", "NoSet", "Full", "Gone", "TooMany", "Crowded", "NoText", "NoDeed", "NoSpans", "NoSpan", "NoRate", "NoWishes", "NoNotes", "NoOrder", "NoList", "NoLost", "NoHints"] : List Str) ++ (["NoWay", "NoLine", "NoNumber", "NoPlace", "Kept", "Bottle", "CellarError", "HereError"] : List Str)
abbrev nX : Nat := 30
def mroT : Nat → List D
  | 0 => [.cls 0, .cls 31, .ty "ValueError", .ty "Exception", .ty "BaseException", .ty "object"]
  | 1 => [.cls 1, .cls 31, .ty "ValueError", .ty "Exception", .ty "BaseException", .ty "object"]
  | 2 => [.cls 2, .cls 31, .ty "ValueError", .ty "Exception", .ty "BaseException", .ty "object"]
  | 3 => [.cls 3, .cls 31, .ty "ValueError", .ty "Exception", .ty "BaseException", .ty "object"]
  | 4 => [.cls 4, .cls 31, .ty "ValueError", .ty "Exception", .ty "BaseException", .ty "object"]
  | 5 => [.cls 5, .cls 31, .ty "ValueError", .ty "Exception", .ty "BaseException", .ty "object"]
  | 6 => [.cls 6, .cls 31, .ty "ValueError", .ty "Exception", .ty "BaseException", .ty "object"]
  | 7 => [.cls 7, .cls 31, .ty "ValueError", .ty "Exception", .ty "BaseException", .ty "object"]
  | 8 => [.cls 8, .cls 31, .ty "ValueError", .ty "Exception", .ty "BaseException", .ty "object"]
  | 9 => [.cls 9, .cls 31, .ty "ValueError", .ty "Exception", .ty "BaseException", .ty "object"]
  | 10 => [.cls 10, .cls 32, .ty "LookupError", .ty "Exception", .ty "BaseException", .ty "object"]
  | 11 => [.cls 11, .cls 32, .ty "LookupError", .ty "Exception", .ty "BaseException", .ty "object"]
  | 12 => [.cls 12, .cls 31, .ty "ValueError", .ty "Exception", .ty "BaseException", .ty "object"]
  | 13 => [.cls 13, .cls 31, .ty "ValueError", .ty "Exception", .ty "BaseException", .ty "object"]
  | 14 => [.cls 14, .cls 31, .ty "ValueError", .ty "Exception", .ty "BaseException", .ty "object"]
  | 15 => [.cls 15, .cls 31, .ty "ValueError", .ty "Exception", .ty "BaseException", .ty "object"]
  | 16 => [.cls 16, .cls 31, .ty "ValueError", .ty "Exception", .ty "BaseException", .ty "object"]
  | 17 => [.cls 17, .cls 31, .ty "ValueError", .ty "Exception", .ty "BaseException", .ty "object"]
  | 18 => [.cls 18, .cls 31, .ty "ValueError", .ty "Exception", .ty "BaseException", .ty "object"]
  | 19 => [.cls 19, .cls 31, .ty "ValueError", .ty "Exception", .ty "BaseException", .ty "object"]
  | 20 => [.cls 20, .cls 31, .ty "ValueError", .ty "Exception", .ty "BaseException", .ty "object"]
  | 21 => [.cls 21, .cls 31, .ty "ValueError", .ty "Exception", .ty "BaseException", .ty "object"]
  | 22 => [.cls 22, .cls 31, .ty "ValueError", .ty "Exception", .ty "BaseException", .ty "object"]
  | 23 => [.cls 23, .cls 31, .ty "ValueError", .ty "Exception", .ty "BaseException", .ty "object"]
  | 24 => [.cls 24, .cls 31, .ty "ValueError", .ty "Exception", .ty "BaseException", .ty "object"]
  | 25 => [.cls 25, .cls 31, .ty "ValueError", .ty "Exception", .ty "BaseException", .ty "object"]
  | 26 => [.cls 26, .cls 31, .ty "ValueError", .ty "Exception", .ty "BaseException", .ty "object"]
  | 27 => [.cls 27, .cls 31, .ty "ValueError", .ty "Exception", .ty "BaseException", .ty "object"]
  | 28 => [.cls 28, .cls 31, .ty "ValueError", .ty "Exception", .ty "BaseException", .ty "object"]
  | 29 => [.cls 29, .cls 32, .ty "LookupError", .ty "Exception", .ty "BaseException", .ty "object"]
  | _ => []
def subT : Nat → Bool
  | 0 => true
  | 1 => true
  | 2 => true
  | 3 => true
  | 4 => true
  | 5 => true
  | 6 => true
  | 7 => true
  | 8 => true
  | 9 => true
  | 10 => false
  | 11 => false
  | 12 => true
  | 13 => true
  | 14 => true
  | 15 => true
  | 16 => true
  | 17 => true
  | 18 => true
  | 19 => true
  | 20 => true
  | 21 => true
  | 22 => true
  | 23 => true
  | 24 => true
  | 25 => true
  | 26 => true
  | 27 => true
  | 28 => true
  | 29 => false
  | _ => false
def ksT : List D := [.cls 1, .cls 2, .cls 3, .cls 4, .cls 32, .ty "LookupError", .cls 0, .cls 5, .cls 6, .cls 7, .cls 8, .cls 9, .cls 15, .cls 16, .cls 17, .cls 18, .cls 19, .cls 20, .cls 21, .cls 22, .cls 23, .cls 24, .cls 25, .cls 26, .cls 27, .cls 28, .cls 12, .cls 13, .cls 14, .ty "ValueError", .cls 10, .cls 11, .cls 29, .cls 31]
def sub_CellarError : Nat → Bool
  | 0 => true
  | 1 => true
  | 2 => true
  | 3 => true
  | 4 => true
  | 5 => true
  | 6 => true
  | 7 => true
  | 8 => true
  | 9 => true
  | 10 => false
  | 11 => false
  | 12 => true
  | 13 => true
  | 14 => true
  | 15 => true
  | 16 => true
  | 17 => true
  | 18 => true
  | 19 => true
  | 20 => true
  | 21 => true
  | 22 => true
  | 23 => true
  | 24 => true
  | 25 => true
  | 26 => true
  | 27 => true
  | 28 => true
  | 29 => false
  | _ => false
def sub_HereError : Nat → Bool
  | 0 => false
  | 1 => false
  | 2 => false
  | 3 => false
  | 4 => false
  | 5 => false
  | 6 => false
  | 7 => false
  | 8 => false
  | 9 => false
  | 10 => true
  | 11 => true
  | 12 => false
  | 13 => false
  | 14 => false
  | 15 => false
  | 16 => false
  | 17 => false
  | 18 => false
  | 19 => false
  | 20 => false
  | 21 => false
  | 22 => false
  | 23 => false
  | 24 => false
  | 25 => false
  | 26 => false
  | 27 => false
  | 28 => false
  | 29 => true
  | _ => false
end
end L04
set_option maxHeartbeats 0
namespace L04
section
open PySem PySem.Spec PyProof.Rows L2 PI
def top (i : Nat) : Stmt := PySem.Challenge.pw_dimcellar_k04_errors_of_two_families.main.body.getD i (.Pass ⟨0, 0, 0, 0⟩)
abbrev st_TooMany___init__ : Stmt := clsSt (top 28) 0
abbrev st_Crowded___init__ : Stmt := clsSt (top 29) 0
abbrev st_NoText___init__ : Stmt := clsSt (top 30) 0
abbrev st_Full___init__ : Stmt := clsSt (top 31) 0
abbrev st_Gone___init__ : Stmt := clsSt (top 32) 0
abbrev st_Kept___init__ : Stmt := clsSt (top 33) 0
abbrev st_is_whole : Stmt := top 41
abbrev st_is_within : Stmt := top 42
abbrev st_is_word : Stmt := top 43
abbrev st_is_size : Stmt := top 44
abbrev st_is_year : Stmt := top 45
abbrev st_Bottle___init__ : Stmt := clsSt (top 46) 0
abbrev st_is_bottle : Stmt := top 47
abbrev st_age_of : Stmt := top 48
abbrev st_are_bottles : Stmt := top 49
abbrev st_check_bottles : Stmt := top 50
abbrev st_by_age : Stmt := top 51
abbrev st__law_cell_at : Stmt := top 53
abbrev st__law_pot : Stmt := top 54
abbrev st__law_take : Stmt := top 55
abbrev st__law_word : Stmt := top 56
abbrev st__law_plain_ones : Stmt := top 57
abbrev st__law_here_word : Stmt := top 58
abbrev st__law_here_right : Stmt := top 59
abbrev st__law_fields_right : Stmt := top 60
abbrev st__law_raised : Stmt := top 61
abbrev st_law : Stmt := top 62
def dd_TooMany___init__ : He.DefD := ⟨("TooMany", some "__init__"), "__init__", "TooMany.__init__", defArgs st_TooMany___init__, defBody st_TooMany___init__, defScope st_TooMany___init__, [], []⟩
def dd_Crowded___init__ : He.DefD := ⟨("Crowded", some "__init__"), "__init__", "Crowded.__init__", defArgs st_Crowded___init__, defBody st_Crowded___init__, defScope st_Crowded___init__, [], []⟩
def dd_NoText___init__ : He.DefD := ⟨("NoText", some "__init__"), "__init__", "NoText.__init__", defArgs st_NoText___init__, defBody st_NoText___init__, defScope st_NoText___init__, [.int 0], []⟩
def dd_Full___init__ : He.DefD := ⟨("Full", some "__init__"), "__init__", "Full.__init__", defArgs st_Full___init__, defBody st_Full___init__, defScope st_Full___init__, [], []⟩
def dd_Gone___init__ : He.DefD := ⟨("Gone", some "__init__"), "__init__", "Gone.__init__", defArgs st_Gone___init__, defBody st_Gone___init__, defScope st_Gone___init__, [], []⟩
def dd_Kept___init__ : He.DefD := ⟨("Kept", some "__init__"), "__init__", "Kept.__init__", defArgs st_Kept___init__, defBody st_Kept___init__, defScope st_Kept___init__, [], []⟩
def dd_is_whole : He.DefD := ⟨("is_whole", none), "is_whole", "is_whole", defArgs st_is_whole, defBody st_is_whole, defScope st_is_whole, [], []⟩
def dd_is_within : He.DefD := ⟨("is_within", none), "is_within", "is_within", defArgs st_is_within, defBody st_is_within, defScope st_is_within, [], []⟩
def dd_is_word : He.DefD := ⟨("is_word", none), "is_word", "is_word", defArgs st_is_word, defBody st_is_word, defScope st_is_word, [.int 1], []⟩
def dd_is_size : He.DefD := ⟨("is_size", none), "is_size", "is_size", defArgs st_is_size, defBody st_is_size, defScope st_is_size, [], []⟩
def dd_is_year : He.DefD := ⟨("is_year", none), "is_year", "is_year", defArgs st_is_year, defBody st_is_year, defScope st_is_year, [], []⟩
def dd_Bottle___init__ : He.DefD := ⟨("Bottle", some "__init__"), "__init__", "Bottle.__init__", defArgs st_Bottle___init__, defBody st_Bottle___init__, defScope st_Bottle___init__, [.int 75], []⟩
def dd_is_bottle : He.DefD := ⟨("is_bottle", none), "is_bottle", "is_bottle", defArgs st_is_bottle, defBody st_is_bottle, defScope st_is_bottle, [], []⟩
def dd_age_of : He.DefD := ⟨("age_of", none), "age_of", "age_of", defArgs st_age_of, defBody st_age_of, defScope st_age_of, [], []⟩
def dd_are_bottles : He.DefD := ⟨("are_bottles", none), "are_bottles", "are_bottles", defArgs st_are_bottles, defBody st_are_bottles, defScope st_are_bottles, [], []⟩
def dd_check_bottles : He.DefD := ⟨("check_bottles", none), "check_bottles", "check_bottles", defArgs st_check_bottles, defBody st_check_bottles, defScope st_check_bottles, [], []⟩
def dd_by_age : He.DefD := ⟨("by_age", none), "by_age", "by_age", defArgs st_by_age, defBody st_by_age, defScope st_by_age, [], []⟩
def dd__law_cell_at : He.DefD := ⟨("_law_cell_at", none), "_law_cell_at", "_law_cell_at", defArgs st__law_cell_at, defBody st__law_cell_at, defScope st__law_cell_at, [], []⟩
def dd__law_pot : He.DefD := ⟨("_law_pot", none), "_law_pot", "_law_pot", defArgs st__law_pot, defBody st__law_pot, defScope st__law_pot, [], []⟩
def dd__law_take : He.DefD := ⟨("_law_take", none), "_law_take", "_law_take", defArgs st__law_take, defBody st__law_take, defScope st__law_take, [], []⟩
def dd__law_word : He.DefD := ⟨("_law_word", none), "_law_word", "_law_word", defArgs st__law_word, defBody st__law_word, defScope st__law_word, [], []⟩
def dd__law_plain_ones : He.DefD := ⟨("_law_plain_ones", none), "_law_plain_ones", "_law_plain_ones", defArgs st__law_plain_ones, defBody st__law_plain_ones, defScope st__law_plain_ones, [], []⟩
def dd__law_here_word : He.DefD := ⟨("_law_here_word", none), "_law_here_word", "_law_here_word", defArgs st__law_here_word, defBody st__law_here_word, defScope st__law_here_word, [], []⟩
def dd__law_here_right : He.DefD := ⟨("_law_here_right", none), "_law_here_right", "_law_here_right", defArgs st__law_here_right, defBody st__law_here_right, defScope st__law_here_right, [], []⟩
def dd__law_fields_right : He.DefD := ⟨("_law_fields_right", none), "_law_fields_right", "_law_fields_right", defArgs st__law_fields_right, defBody st__law_fields_right, defScope st__law_fields_right, [], []⟩
def dd__law_raised : He.DefD := ⟨("_law_raised", none), "_law_raised", "_law_raised", defArgs st__law_raised, defBody st__law_raised, defScope st__law_raised, [], []⟩
def dd_law : He.DefD := ⟨("law", none), "law", "law", defArgs st_law, defBody st_law, defScope st_law, [], []⟩
def fn : List He.DefD := [dd_TooMany___init__, dd_Crowded___init__, dd_NoText___init__, dd_Full___init__, dd_Gone___init__, dd_Kept___init__, dd_is_whole, dd_is_within, dd_is_word, dd_is_size, dd_is_year, dd_Bottle___init__, dd_is_bottle, dd_age_of, dd_are_bottles, dd_check_bottles, dd_by_age, dd__law_cell_at, dd__law_pot, dd__law_take, dd__law_word, dd__law_plain_ones, dd__law_here_word, dd__law_here_right, dd__law_fields_right, dd__law_raised, dd_law]
def fa0 : List He.Fa := [.glo "is_whole", .glo "is_within", .glo "is_word", .glo "is_size", .glo "is_year", .glo "is_bottle", .glo "age_of", .glo "are_bottles", .glo "check_bottles", .glo "by_age", .glo "_law_cell_at", .glo "_law_pot", .glo "_law_take", .glo "_law_word", .glo "_law_plain_ones", .glo "_law_here_word", .glo "_law_here_right", .glo "_law_fields_right", .glo "_law_raised", .glo "law", .cls "Bottle", .mkr "Bottle", .noat "Bottle" "maker", .noat "Bottle" "size", .noat "Bottle" "year", .int "FIRST_YEAR" 1900, .int "LAST_YEAR" 2100, .int "MOST_SIGNS" 8, .str "LETTERS" ⟨#[97, 98, 99, 100, 101, 102, 103, 104, 105, 106, 107, 108, 109, 110, 111, 112, 113, 114, 115, 116, 117, 118, 119, 120, 121, 122]⟩, .glo "Bottle", .glo "CellarError", .glo "Crowded", .glo "Full", .glo "Gone", .glo "HereError", .glo "Kept", .glo "NoBottle", .glo "NoBottles"]
def fa1 : List He.Fa := [.glo "NoDeed", .glo "NoHints", .glo "NoHold", .glo "NoLine", .glo "NoList", .glo "NoLost", .glo "NoMaker", .glo "NoMonth", .glo "NoNotes", .glo "NoNumber", .glo "NoOrder", .glo "NoPlace", .glo "NoRate", .glo "NoRooms", .glo "NoSet", .glo "NoSize", .glo "NoSpan", .glo "NoSpans", .glo "NoText", .glo "NoWay", .glo "NoWho", .glo "NoWishes", .glo "NoYear", .glo "TooMany", .glo "SIZES", .free "LookupError", .free "ValueError", .free "all", .free "bool", .free "int", .free "isinstance", .free "len", .free "list", .free "max", .free "min", .free "range", .free "sorted", .free "str"]
def fa : List He.Fa := fa0 ++ fa1
abbrev gOf (K : PySem.W.Frag) : Ga := gaY clsNames fnNames tabNames fldNames K
def x0L : List (PySem.W.Frag → Bool) := [excFactH gOf nX [0, 1, 2, 3, 4, 5, 6, 7, 8, 9, 15, 16, 17, 18, 19, 20, 21, 22, 23, 24, 25, 26, 27, 28] mroT ksT "CellarError" subT]
def x1L : List (PySem.W.Frag → Bool) := [smB, xfFact gOf nX "fate", xfFact gOf nX "first", xfFact gOf nX "last", xfFact gOf nX "line", xfFact gOf nX "many", xfFact gOf nX "most", xfFact gOf nX "number", xfFact gOf nX "others", xfFact gOf nX "room", xfFact gOf nX "shelf", keFact gOf 12 [0, 1] "TooMany", keFact gOf 13 [2, 3, 0] "Crowded", keFact gOf 14 [4] "NoText", keFactL gOf 10 [5, 6] "Full", keFactL gOf 11 [7, 8] "Gone", keFactL gOf 29 [7, 9] "Kept", subFact gOf nX "CellarError" sub_CellarError, subFact gOf nX "HereError" sub_HereError, iuFact gOf 30 31, tupC gOf "SIZES" [(.int 37), (.int 75), (.int 150)]]
def xrL : List (PySem.W.Frag → Bool) := x1L
def xsL : List (PySem.W.Frag → Bool) := x0L ++ xrL
def tsL : List TabS := []
abbrev rowL : PySem.W.OpenRow := PySem.W.OpenLaw.row PySem.Challenge.rw_dimcellar_k04_errors_of_two_families
def nm0 : List Str := ["_wall", "CellarError", "HereError", "NoMaker", "NoYear", "NoSize", "NoBottle", "NoBottles", "NoRooms", "NoHold", "NoPlace", "NoNumber", "NoMonth", "NoWho", "NoSet", "NoDeed", "NoSpans", "NoSpan", "NoRate", "NoWishes", "NoNotes", "NoOrder", "NoList", "NoLost", "NoHints", "NoWay", "NoLine", "TooMany", "Crowded", "NoText"]
def nm1 : List Str := ["Full", "Gone", "Kept", "LETTERS", "MOST_SIGNS", "FIRST_YEAR", "LAST_YEAR", "SIZES", "PLAIN", "is_whole", "is_within", "is_word", "is_size", "is_year", "Bottle", "is_bottle", "age_of", "are_bottles", "check_bottles", "by_age", "_law_cell_at", "_law_pot", "_law_take", "_law_word", "_law_plain_ones", "_law_here_word", "_law_here_right", "_law_fields_right", "_law_raised"]
abbrev nms : List Str := nm0 ++ nm1
def as0 : List PySem.Addr := [3, 6, 4, 21, 31, 44, 57, 69, 81, 93, 105, 117, 129, 141, 153, 165, 177, 189, 201, 213, 225, 237, 249, 261, 273, 285, 297, 309, 321, 333, 352, 371, 391, 410, 429, 448, 451, 458, 465, 471, 478, 485, 531, 542, 549, 554, 561, 568, 575, 582]
def as50 : List PySem.Addr := [589, 596, 603, 610, 615, 620, 627, 632, 0, 20, 30, 43, 56, 68, 80, 92, 104, 116, 128, 140, 152, 164, 176, 188, 200, 212, 224, 236, 248, 260, 272, 284, 296, 308, 320, 332, 351, 370, 390, 409, 428, 447, 457, 464, 470, 466, 477, 484, 530, 541]
def as100 : List PySem.Addr := [548, 553, 560, 567, 574, 581, 588, 595, 602, 609, 614, 619, 626, 631, 15, 16, 17, 18, 19, 29, 32, 42, 45, 55, 67, 79, 91, 103, 115, 127, 139, 151, 163, 175, 187, 199, 211, 223, 235, 247, 259, 271, 283, 295, 307, 319, 331, 349, 350, 368]
def as150 : List PySem.Addr := [369, 388, 389, 407, 408, 426, 427, 445, 446, 452, 453, 454, 455, 456, 459, 460, 461, 462, 463, 467, 468, 469, 472, 473, 474, 475, 476, 479, 480, 481, 482, 483, 500, 507, 514, 521, 528, 529, 532, 533, 536, 537, 538, 539, 540, 543, 544, 545, 546, 547]
def as200 : List PySem.Addr := [550, 551, 552, 555, 556, 557, 558, 559, 562, 563, 564, 565, 566, 569, 570, 571, 572, 573, 576, 577, 578, 579, 580, 583, 584, 585, 586, 587, 590, 591, 592, 593, 594, 597, 598, 599, 600, 601, 604, 605, 606, 607, 608, 611, 612, 613, 616, 617, 618, 621]
def as250 : List PySem.Addr := [622, 623, 624, 625, 628, 629, 630, 348, 367, 387, 381, 406, 425, 444, 499, 493, 506, 513, 520, 527, 343, 344, 345, 346, 347, 362, 363, 364, 365, 366, 382, 383, 384, 385, 386, 401, 402, 403, 404, 405, 420, 421, 422, 423, 424, 439, 440, 441, 442, 443]
def as300 : List PySem.Addr := [494, 495, 496, 497, 498, 501, 502, 503, 504, 505, 508, 509, 510, 511, 512, 515, 516, 517, 518, 519, 522, 523, 524, 525, 526]
def asL : List PySem.Addr := PySem.sysModules :: (as0 ++ (as50 ++ (as100 ++ (as150 ++ (as200 ++ (as250 ++ (as300)))))))
end
open PySem PySem.W PySem.Calls PyProof.Rows HandSHeadRun PI
theorem map_of {α β γ : Type} {o : Option α} {f : α → β} {v : β} (h : o.map f = some v) (g : β → γ) : o.map (fun s => g (f s)) = some (g v) := by
  cases o with
  | none => cases h
  | some x =>
    rw [Option.map_some, Option.some.injEq] at h
    rw [Option.map_some, h]
theorem run1 (w : World) : ∀ os : OsState, (endF (stepQ (denQ tabQ) rowL.prog w) 30000 rowL.prog w os).map (fun s => (looksF rowL.prog (boot_heap w.params) s.abs, seenQ (PySem.W.view rowL.prog [62]) nms (importedModules rowL.prog.main.body) (fun s => xlAt (PySem.W.view rowL.prog [62]) [] s && recOk rowL.toRowW.records s) s.abs)) = some (true, openGood (PySem.W.view rowL.prog [62]) nms) := by
  intro os
  kernel_rfl
theorem run0 (w : World) : ∀ os : OsState, (endF (stepQ (denQ tabQ) rowL.prog w) 30000 rowL.prog w os).map (fun s => ((fa.all fun f => f.ok (endL asL s)) && fn.all fun d => d.ok (endL asL s), fn.map fun d => He.fnW (endL asL s) d.at_, x0L.all fun b => b (endL asL s), xrL.all fun b => b (endL asL s))) = some (true, fn.map He.DefD.val, true, true) := by
  intro os
  kernel_rfl
theorem run2 (w : World) : ∀ os : OsState, (endF (stepQ (denQ tabQ) rowL.prog w) 30000 rowL.prog w os).map (fun s => (fa.all fun f => f.ok (endL asL s)) && fn.all fun d => d.ok (endL asL s)) = some (true) := fun os => map_of (run0 w os) fun z => z.1
theorem run3 (w : World) : ∀ os : OsState, (endF (stepQ (denQ tabQ) rowL.prog w) 30000 rowL.prog w os).map (fun s => fn.map fun d => He.fnW (endL asL s) d.at_) = some (fn.map He.DefD.val) := fun os => map_of (run0 w os) fun z => z.2.1
theorem run4 (w : World) : ∀ os : OsState, (endF (stepQ (denQ tabQ) rowL.prog w) 30000 rowL.prog w os).map (fun s => x0L.all fun b => b (endL asL s)) = some (true) := fun os => map_of (run0 w os) fun z => z.2.2.1
theorem run5 (w : World) : ∀ os : OsState, (endF (stepQ (denQ tabQ) rowL.prog w) 30000 rowL.prog w os).map (fun s => xrL.all fun b => b (endL asL s)) = some (true) := fun os => map_of (run0 w os) fun z => z.2.2.2
end L04
set_option maxHeartbeats 0
namespace L04
open PySem PySem.W PySem.Calls PyProof.Rows HandSHeadRun
theorem hd_e : PySem.W.opening rowL.prog = PySem.W.plainProg rowL.prog.main.scope.names := by kernel_rfl
theorem hd_f : ∀ s : PySem.Shared, PySem.fenceModules? rowL.prog s = some s := fun s => by kernel_rfl
theorem hd_d : PySem.W.defOf (view rowL.prog [62]) rowL.name = some (HandSHeadRun.topDef rowL.prog 62, []) := by kernel_rfl
theorem hd_p : rowL.prog.theDef rowL.name = some ((HandSHeadRun.topDef rowL.prog 62).params, (HandSHeadRun.topDef rowL.prog 62).body, (HandSHeadRun.topDef rowL.prog 62).scope) := by kernel_rfl
theorem hd_k : PySem.W.kwWritten? (HandSHeadRun.topDef rowL.prog 62).params.kwonlyargs (HandSHeadRun.topDef rowL.prog 62).params.kw_defaults = some [] := by kernel_rfl
theorem hd_w : (!rowL.writes || List.isEmpty rowL.records) = true := by rfl
theorem hd_s : rowL.wellSaid = true := by first | assumption | decide +kernel
theorem hd_o : (PySem.W.chainsOk (view rowL.prog [62]) && PySem.W.opensWell rowL.prog && (PySem.W.frees rowL.toRowW && rowL.within.isEmpty)) = true := by decide +kernel
theorem hd_b : rowL.prog.bare := ⟨rfl, rfl, rfl, rfl, rfl, by decide +kernel⟩
theorem hd_n : (HandSHeadRun.topDef rowL.prog 62).name = ("law" : PySem.Str) := by kernel_rfl
end L04
/-! PIFun: what the built-in operators and functions give, on my values. -/
namespace PI
open PySem
def D.flatKey : D → Bool
  | .int _ => true
  | .str _ => true
  | _ => false
mutual
/-- plain data -/
def dat : D → Option PyData
  | .non => some .none
  | .bl b => some (.bool b)
  | .int i => some (.int i)
  | .str cs => some (.str ⟨cs.toArray⟩)
  | .tup xs => (datL xs).map .tuple
  | .tupw xs => (datL xs).map .tuple
  | .lst xs => (datL xs).map .list
  | .dic kvs => (datK kvs).map .dict
  | _ => none
def datL : List D → Option (List PyData)
  | [] => some []
  | d :: ds => (dat d).bind fun p => (datL ds).map (p :: ·)
def datK : List (D × D) → Option (List (PyData × PyData))
  | [] => some []
  | (k, d) :: r => if k.flatKey then (dat k).bind fun q => (dat d).bind fun p => (datK r).map ((q, p) :: ·) else none
end
mutual
/-- no list lies within -/
def noLst : PyData → Bool
  | .list _ => false
  | .tuple xs => noLstL xs
  | .dict kvs => noLstK kvs
  | _ => true
def noLstL : List PyData → Bool
  | [] => true
  | p :: ps => noLst p && noLstL ps
def noLstK : List (PyData × PyData) → Bool
  | [] => true
  | (q, p) :: ps => noLst q && noLst p && noLstK ps
end
def sv (d : D) : Option SV := some (.val d)
def small (i : Int) : Bool := decide (-(2 ^ 64) < i ∧ i < 2 ^ 64)
def okLen (n : Nat) : Bool := decide (n ≤ 1000000)
/-! operators -/
def fAdd : D → D → Option SV
  | .int i, .int j => sv (.int (i + j))
  | .str a, .str b => if okLen (a.length + b.length) then sv (.str (a ++ b)) else none
  | .lst a, .lst b => if okLen (a.length + b.length) then some (.own (.lst (a ++ b))) else none
  | .tup a, .tup b => if okLen (a.length + b.length) then sv (.tup (a ++ b)) else none
  | _, _ => none
def fSub : D → D → Option SV
  | .int i, .int j => sv (.int (i - j))
  | _, _ => none
def fMul : D → D → Option SV
  | .int i, .int j => if small i || small j then sv (.int (i * j)) else none
  | _, _ => none
def fDiv : D → D → Option SV
  | .int i, .int j => if 0 < j ∧ j < 10 ^ 30 then sv (.int (i / j)) else none
  | _, _ => none
def fMod : D → D → Option SV
  | .int i, .int j => if 0 < j then sv (.int (i % j)) else none
  | _, _ => none
def fPow : D → D → Option SV
  | .int i, .int j => if 0 ≤ j ∧ j ≤ 1000 ∧ small i ∧ -(2 ^ 63) < i then sv (.int (i ^ j.toNat)) else none
  | _, _ => none
/-! comparisons -/
/-- two values that == compares -/
def eqOk (p q : PyData) : Bool := p.plain && q.plain && decide (min p.depth q.depth ≤ 60)
def fEq : D → D → Option Bool
  | .int a, .int b => some (a == b)
  | .str a, .str b => some (a == b)
  | .bl a, .bl b => some (a == b)
  | x, y => (dat x).bind fun p => (dat y).bind fun q => if eqOk p q then some (PyData.eqv p q) else none
def fNe (x y : D) : Option Bool := (fEq x y).map (!·)
/-- two values that < compares -/
def cmpOk (p q : PyData) : Bool := W.alike p q && (match p with | .none => false | _ => true) && decide (p.depth ≤ 60)
def fLt : D → D → Option Bool
  | .int a, .int b => some (decide (a < b))
  | x, y => (dat x).bind fun p => (dat y).bind fun q => if cmpOk p q then some (W.dataLt p q) else none
def fLe : D → D → Option Bool
  | .int a, .int b => some (decide (a ≤ b))
  | x, y => (dat x).bind fun p => (dat y).bind fun q => if cmpOk p q then some (!W.dataLt q p) else none
def fGe : D → D → Option Bool
  | .int a, .int b => some (decide (b ≤ a))
  | x, y => (dat x).bind fun p => (dat y).bind fun q => if cmpOk p q then some (!W.dataLt p q) else none
/-! keys of dicts -/
mutual
def keyEq : D → D → Bool
  | .int a, .int b => a == b
  | .str a, .str b => a == b
  | .tup a, .tup b => keyEqL a b
  | .tup a, .tupw b => keyEqL a b
  | .tupw a, .tup b => keyEqL a b
  | .tupw a, .tupw b => keyEqL a b
  | _, _ => false
def keyEqL : List D → List D → Bool
  | [], [] => true
  | a :: r, b :: s => keyEq a b && keyEqL r s
  | _, _ => false
end
/-- a tuple of flat keys, written as a display -/
def D.tupwKey : D → Bool
  | .tupw l => l.all D.flatKey
  | _ => false
def D.isTup : D → Bool
  | .tup _ => true
  | _ => false
/-- what may be looked up in a dict -/
def dOk (kvs : List (D × D)) (k : D) : Bool := k.flatKey && kvs.all (·.1.flatKey) || k.tupwKey && kvs.all (·.1.isTup)
def dGet (kvs : List (D × D)) (k : D) : Option D := (kvs.find? fun p => keyEq p.1 k).map (·.2)
/-- a key that is kept: a tuple whose text is known -/
def D.keep : D → D
  | .tupw l => .tup l
  | d => d
def dPutN (kvs : List (D × D)) (k v : D) : List (D × D) := if kvs.any (fun p => keyEq p.1 k) then kvs.map (fun p => if keyEq p.1 k then (p.1, v) else p) else kvs ++ [(k.keep, v)]
/-! in -/
def inOk (p : PyData) (qs : List PyData) : Bool := p.plain && PyData.plainAll qs && decide (min (PyData.depthAll qs) p.depth ≤ 60)
def fIn : D → D → Option Bool
  | .str [c], .str b => some (decide (c ∈ b))
  | x, .lst ys => (dat x).bind fun p => (datL ys).bind fun qs => if inOk p qs then some (qs.any fun q => PyData.eqv q p) else none
  | x, .tup ys => (dat x).bind fun p => (datL ys).bind fun qs => if inOk p qs then some (qs.any fun q => PyData.eqv q p) else none
  | x, .tupw ys => (dat x).bind fun p => (datL ys).bind fun qs => if inOk p qs then some (qs.any fun q => PyData.eqv q p) else none
  | x, .dic kvs => if dOk kvs x then some (dGet kvs x).isSome else none
  | _, _ => none
/-! subscripts, slices -/
def ixD (n : Nat) (i : Int) : Option Nat := if 0 ≤ i then (if i < n then some i.toNat else none) else if -(n : Int) ≤ i then some (i + n).toNat else none
def atD {α : Type} (xs : List α) (i : Int) : Option α := (ixD xs.length i).bind fun j => xs[j]?
def fIx : D → D → Option SV
  | .lst xs, .int i => (atD xs i).map .val
  | .tup xs, .int i => (atD xs i).map .val
  | .tupw xs, .int i => (atD xs i).map .val
  | .str cs, .int i => (atD cs i).map fun c => .val (.str [c])
  | .dic kvs, k => if dOk kvs k then (dGet kvs k).map .val else none
  | _, _ => none
/-- a slice's end -/
def cutEnd (n dflt : Nat) : Option Int → Nat
  | none => dflt
  | some i => if i < 0 then (i + n).toNat else min i.toNat n
def cutD {α : Type} (xs : List α) (lo hi : Option Int) : List α := (xs.drop (cutEnd xs.length 0 lo)).take (cutEnd xs.length xs.length hi - cutEnd xs.length 0 lo)
def fCut : D → Option Int → Option Int → Option SV
  | .lst xs, lo, hi => some (.own (.lst (cutD xs lo hi)))
  | .tup xs, lo, hi => sv (.tup (cutD xs lo hi))
  | .str cs, lo, hi => sv (.str (cutD cs lo hi))
  | _, _, _ => none
/-! functions -/
def fLen : List D → Option SV
  | [.lst xs] => sv (.int xs.length)
  | [.tup xs] => sv (.int xs.length)
  | [.tupw xs] => sv (.int xs.length)
  | [.str xs] => sv (.int xs.length)
  | [.dic xs] => if xs.all (·.1.flatKey) then sv (.int xs.length) else none
  | _ => none
def blsD : List D → Option (List Bool)
  | [] => some []
  | .bl b :: r => (blsD r).map (b :: ·)
  | _ :: _ => none
def intsD : List D → Option (List Int)
  | [] => some []
  | .int b :: r => (intsD r).map (b :: ·)
  | _ :: _ => none
def fAll : List D → Option SV
  | [.lst xs] => (blsD xs).map fun bs => .val (.bl (bs.all id))
  | _ => none
def fMin : List D → Option SV
  | [.int i, .int j] => sv (.int (if j < i then j else i))
  | [.lst xs] => match intsD xs with
    | some (n :: ns) => sv (.int (ns.foldl min n))
    | _ => none
  | _ => none
def fMax : List D → Option SV
  | [.int i, .int j] => sv (.int (if j > i then j else i))
  | [.lst xs] => match intsD xs with
    | some (n :: ns) => sv (.int (ns.foldl max n))
    | _ => none
  | _ => none
def fTuple : List D → Option SV
  | [.lst xs] => sv (.tup xs)
  | [.tup xs] => sv (.tup xs)
  | _ => none
/-- the order of sorted -/
def leD (a b : D) : Bool := match dat a, dat b with
  | some p, some q => !W.dataLt q p
  | _, _ => true
def alikeL (ps : List PyData) : Bool := ps.all fun p => ps.all fun q => W.alike p q
def sortOk (ps : List PyData) : Bool := alikeL ps && ps.all (fun p => decide (p.depth ≤ 60)) && (ps.all (fun p => match p with | .tuple (_ :: _) => true | _ => false) || ps.all (fun p => match p with | .tuple _ => false | .none => false | _ => true))
def tyD : D → Option String
  | .non => some "NoneType"
  | .bl _ => some "bool"
  | .int _ => some "int"
  | .str _ => some "str"
  | .tup _ => some "tuple"
  | .tupw _ => some "tuple"
  | .lst _ => some "list"
  | .dic kvs => if kvs.all (·.1.flatKey) then some "dict" else none
  | _ => none
def isiTy (t T : String) : Option Bool := if T = "int" then some (t = "int" || t = "bool") else if T = "bool" || T = "str" || T = "tuple" || T = "list" || T = "dict" then some (t = T) else none
def fIsi : List D → Option SV
  | [x, .ty T] => (tyD x).bind fun t => (isiTy t T).map fun b => .val (.bl b)
  | _ => none
end PI
namespace PI
open PySem
/-! methods -/
/-- what never changes -/
def D.still : D → Bool
  | .lst _ => false
  | .dic _ => false
  | .ins _ _ => false
  | _ => true
/-- the place of the first that is equal -/
def placeD (ds : List D) (x : D) : Option Nat := (dat x).bind fun p => (datL ds).bind fun ps => if inOk p ps then ps.findIdx? fun q => PyData.eqv q p else none
def fIndexL : D → List D → Option SV
  | .lst ds, [x] => (placeD ds x).map fun j => .val (.int (j : Nat))
  | _, _ => none
def fIndexT : D → List D → Option SV
  | .tup ds, [x] => (placeD ds x).map fun j => .val (.int (j : Nat))
  | _, _ => none
def countD (ds : List D) (x : D) : Option SV := (dat x).bind fun p => (datL ds).bind fun ps => if inOk p ps then sv (.int (ps.countP fun q => PyData.eqv q p : Nat)) else none
def fCountL : D → List D → Option SV
  | .lst ds, [x] => countD ds x
  | _, _ => none
def fCountT : D → List D → Option SV
  | .tup ds, [x] => countD ds x
  | _, _ => none
/-- x.append(y) .. -/
def mAppend : MO → List D → Option (D × MO)
  | .lst ds, [d] => if okLen (ds.length + 1) then some (.non, .lst (ds ++ [d])) else none
  | _, _ => none
/-- o[k] = v -/
def pLst : MO → D → D → Option MO
  | .lst ds, .int i, d => (ixD ds.length i).map fun j => .lst (ds.set j d)
  | .dic kvs, k, d => if dOk kvs k && okLen (kvs.length + 1) then some (.dic (dPutN kvs k d)) else none
  | _, _, _ => none
end PI
namespace PI
open PySem
/-! the rest of the combinators -/
def ePart (a : EM PV) : EM (Option Int) := EM.bind a fun p => EM.bind p.now fun d => match d with
  | .int i => EM.pure (some i)
  | _ => fun _ _ => .stuck
def eNoPart : EM (Option Int) := EM.pure none
def eCut (a : EM PV) (lo hi : EM (Option Int)) : EM SV := EM.bind a fun p => EM.bind lo fun l => EM.bind hi fun h => EM.bind p.now fun d => EM.lift (fCut d l h)
def eDic0 : EM SV := EM.pure (.own (.dic []))
/-- an object of one's own becomes a shared one -/
def eShare (m : EM SV) : EM SV := EM.bind m fun s => match s with
  | .own o => fun e M => .ok (.val (.obj M.length)) e (M ++ [o])
  | .val d => EM.pure (.val d)
/-- where a parameter's value comes from: the positional values, the defaults, the keywords' values -/
inductive Src where
  | p (j : Nat) | d (j : Nat) | k (j : Nat)
def pickL {α : Type} (ss : List Src) (us its ws : List α) : List α := ss.filterMap fun s => match s with
  | .p j => us[j]?
  | .d j => its[j]?
  | .k j => ws[j]?
/-- f(e, .., k = v, ..) -/
def eCallK (f : FT) (ss : List Src) (dd : List D) (es kws : EM (List D)) : EM SV := EM.bind es fun ds => EM.bind kws fun zs e m => (f (pickL ss ds dd zs) m).to e
/-- f(e, ..): dd the defaults that fill up -/
def eCallD (f : FT) (dd : List D) (es : EM (List D)) : EM SV := EM.bind es fun ds e m => (f (ds ++ dd) m).to e
/-- {i: j}, two numbers -/
def eDicI (i j : Int) : EM SV := EM.pure (.own (.dic [(.int i, .int j)]))
/-- x = e of a name that nothing changes: kept at once -/
def sSetF (i : Nat) (x : EM SV) : EM Fl := EM.bind x fun s e m => .ok .nx (setS e i (.val s.d)) m
/-! enumerate, zip -/
def enumG : Nat → List D → List D
  | _, [] => []
  | n, x :: xs => .tupw [.int n, x] :: enumG (n + 1) xs
def enumOf : List D → Option (List D)
  | [.lst xs] => some (enumG 0 xs)
  | [.tup xs] => some (enumG 0 xs)
  | [.tupw xs] => some (enumG 0 xs)
  | _ => none
def zipG : List D → List D → List D
  | x :: xs, y :: ys => .tupw [x, y] :: zipG xs ys
  | _, _ => []
def zipOf : List D → Option (List D)
  | [.lst xs, .lst ys] => some (zipG xs ys)
  | [.tup xs, .tup ys] => some (zipG xs ys)
  | _ => none
def itArgs (f : List D → Option (List D)) (es : EM (List D)) : EM (List D) := EM.bind es fun ds => EM.lift (f ds)
end PI
/-! PIFun2: further built-ins by values. -/
namespace PI
open PySem
/-- less, of alike data -/
def ltD (a b : D) : Bool := match dat a, dat b with
  | some p, some q => W.dataLt p q
  | _, _ => false
def minOk (ps : List PyData) : Bool := alikeL ps && ps.all (fun p => match p with | .none => false | _ => true) && decide (PyData.depthAll ps ≤ 60)
/-- the first of the least -/
def minFold (x : D) (xs : List D) : D := xs.foldl (fun a y => if ltD y a then y else a) x
def fMinA (x : D) (xs : List D) : Option SV := (datL (x :: xs)).bind fun ps => if minOk ps then sv (minFold x xs) else none
def fMinD (ds : List D) : Option SV := match fMin ds with
  | some r => some r
  | none => match ds with
    | [.lst (x :: xs)] => fMinA x xs
    | [a, b] => if a.still && b.still then fMinA a [b] else none
    | _ => none
/-- a method of lists or tuples -/
def eM2 (f1 f2 : D → List D → Option SV) (a : EM PV) (es : EM (List PV)) : EM SV := EM.bind a fun p => EM.bind p.now fun d0 => if Ty.list.has d0 then
  EM.bind es fun ps => EM.bind p.now fun d => EM.bind (nowL ps) fun ds => EM.lift (f1 d ds) else if Ty.tuple.has d0 then
  EM.bind es fun ps => EM.bind p.now fun d => EM.bind (nowL ps) fun ds => EM.lift (f2 d ds) else fun _ _ => .stuck
/-- xs[::-1] -/
def fRev : D → Option SV
  | .lst xs => some (.own (.lst xs.reverse))
  | .tup xs => sv (.tup xs.reverse)
  | _ => none
/-- a built-in called with keywords -/
def eBK (f : List D → List D → Option SV) (es : EM (List PV)) (ks : EM (List D)) : EM SV := EM.bind es fun ps => EM.bind ks fun zs => EM.bind (nowL ps) fun ds => EM.lift (f ds zs)
/-- xs[::-1] -/
def eRev (a : EM PV) : EM SV := EM.bind a fun p => EM.bind p.now fun d => EM.lift (fRev d)
/-- x op= e, of whole numbers -/
def augK (i : Nat) (f : Int → Int → Int) (a : Int) : SV → EM Fl
  | .val (.int b) => fun e m => .ok .nx (setS e i (.val (.int (f a b)))) m
  | _ => fun _ _ => .stuck
def sAug (i : Nat) (f : Int → Int → Int) (x : EM SV) : EM Fl := fun e m => match e.getD i none with
  | some (.val (.int a)) => EM.bind x (augK i f a) e m
  | _ => .stuck
end PI
/-! PIEv: my combinators run by simp; comprehensions, loops by lemmas. -/
namespace PI
open PySem
section
variable {α β : Type} (e : Env) (m : MH)
@[simp] theorem ev_setS (i : Nat) (s : SV) : setS e i s = e.set i (some s) := rfl
@[simp] theorem ev_con (d : D) : eCon d e m = .ok (.val d) e m := rfl
/-- a slot read -/
def locR (i : Nat) : Option SV → Res SV
  | some (.val d) => .ok (.val d) e m
  | some (.own o) => .ok (.val o.snap) (e.set i (some (.val o.snap))) m
  | none => .stuck
@[simp] theorem ev_loc (i : Nat) : eLoc i e m = locR e m i (e.getD i none) := by unfold eLoc locR; cases e.getD i none with | none => rfl | some s => cases s <;> rfl
@[simp] theorem locR_v (i : Nat) (d : D) : locR e m i (some (.val d)) = .ok (.val d) e m := rfl
@[simp] theorem locR_o (i : Nat) (o : MO) : locR e m i (some (.own o)) = .ok (.val o.snap) (e.set i (some (.val o.snap))) m := rfl
def movR : Option SV → Res SV
  | some s => .ok s e m
  | none => .stuck
@[simp] theorem ev_mov (i : Nat) : eMov i e m = movR e m (e.getD i none) := by unfold eMov movR; cases e.getD i none <;> rfl
@[simp] theorem movR_s (s : SV) : movR e m (some s) = .ok s e m := rfl
def plocR (i : Nat) : Option SV → Res PV
  | some (.val d) => .ok (.v d) e m
  | some (.own _) => .ok (.sl i) e m
  | none => .stuck
@[simp] theorem ev_ploc (i : Nat) : pLoc i e m = plocR e m i (e.getD i none) := by unfold pLoc plocR; cases e.getD i none with | none => rfl | some s => cases s <;> rfl
@[simp] theorem plocR_v (i : Nat) (d : D) : plocR e m i (some (.val d)) = .ok (.v d) e m := rfl
@[simp] theorem plocR_o (i : Nat) (o : MO) : plocR e m i (some (.own o)) = .ok (.sl i) e m := rfl
@[simp] theorem sv_v (d : D) : (SV.val d).d = d := rfl
@[simp] theorem sv_o (o : MO) : (SV.own o).d = o.snap := rfl
@[simp] theorem snap_l (x : List D) : (MO.lst x).snap = .lst x := rfl
@[simp] theorem snap_d (x : List (D × D)) : (MO.dic x).snap = .dic x := rfl
@[simp] theorem snap_i (c : Nat) (x : List (Nat × D)) : (MO.ins c x).snap = .ins c x := rfl
@[simp] theorem ev_pof (x : EM SV) : pOf x e m = (x e m).bind fun s => EM.pure (.v s.d) := rfl
/-- what a shared object holds -/
def objR : Option MO → Res D
  | some o => .ok o.snap e m
  | none => .stuck
@[simp] theorem objR_s (o : MO) : objR e m (some o) = .ok o.snap e m := rfl
@[simp] theorem now_obj (n : Nat) : (PV.v (.obj n)).now e m = objR e m m[n]? := by unfold PV.now objR; cases h : m[n]? <;> simp [h]
@[simp] theorem now_non : (PV.v .non).now e m = .ok .non e m := rfl
@[simp] theorem now_bl (b : Bool) : (PV.v (.bl b)).now e m = .ok (.bl b) e m := rfl
@[simp] theorem now_int (b : Int) : (PV.v (.int b)).now e m = .ok (.int b) e m := rfl
@[simp] theorem now_str (b : List Nat) : (PV.v (.str b)).now e m = .ok (.str b) e m := rfl
@[simp] theorem now_tup (b : List D) : (PV.v (.tup b)).now e m = .ok (.tup b) e m := rfl
@[simp] theorem now_tupw (b : List D) : (PV.v (.tupw b)).now e m = .ok (.tupw b) e m := rfl
@[simp] theorem now_lst (b : List D) : (PV.v (.lst b)).now e m = .ok (.lst b) e m := rfl
@[simp] theorem now_dic (b : List (D × D)) : (PV.v (.dic b)).now e m = .ok (.dic b) e m := rfl
@[simp] theorem now_ins (c : Nat) (b : List (Nat × D)) : (PV.v (.ins c b)).now e m = .ok (.ins c b) e m := rfl
@[simp] theorem now_ty (n : String) : (PV.v (.ty n)).now e m = .ok (.ty n) e m := rfl
@[simp] theorem now_fn (n : Nat) : (PV.v (.fn n)).now e m = .ok (.fn n) e m := rfl
@[simp] theorem now_cls (n : Nat) : (PV.v (.cls n)).now e m = .ok (.cls n) e m := rfl
def slR : Option SV → Res D
  | some s => .ok s.d e m
  | none => .stuck
@[simp] theorem slR_s (s : SV) : slR e m (some s) = .ok s.d e m := rfl
@[simp] theorem now_sl (i : Nat) : (PV.sl i).now e m = slR e m (e.getD i none) := by
  simp only [PV.now, slR]
  all_goals (cases e.getD i none <;> rfl)
/-- a value that is no shared object -/
def D.noObj : D → Bool
  | .obj _ => false
  | _ => true
@[simp] theorem ev_use (x : EM SV) : eUse x e m = (x e m).bind fun s => EM.pure s.d := rfl
@[simp] theorem ev_e1 (f : D → Option SV) (a : EM PV) : e1 f a e m = (a e m).bind fun x => EM.bind x.now fun x => EM.lift (f x) := rfl
@[simp] theorem ev_e2 (f : D → D → Option SV) (a b : EM PV) : e2 f a b e m = (a e m).bind fun x => EM.bind b fun y => EM.bind x.now fun x => EM.bind y.now fun y => EM.lift (f x y) := rfl
@[simp] theorem ev_nil : (eNil : EM (List α)) e m = .ok [] e m := rfl
@[simp] theorem ev_cons (a : EM α) (r : EM (List α)) : eCons a r e m = (a e m).bind fun x => EM.bind r fun xs => EM.pure (x :: xs) := rfl
@[simp] theorem ev_tup (es : EM (List D)) : eTup es e m = (es e m).bind fun ds => if ds.length ≤ 1000 then EM.pure (.val (.tup ds)) else fun _ _ => .stuck := rfl
@[simp] theorem ev_tupw (es : EM (List D)) : eTupW es e m = (es e m).bind fun ds => if ds.length ≤ 1000 then EM.pure (.val (.tupw ds)) else fun _ _ => .stuck := rfl
@[simp] theorem ev_lst (es : EM (List D)) : eLst es e m = (es e m).bind fun ds => if ds.length ≤ 1000 then EM.pure (.own (.lst ds)) else fun _ _ => .stuck := rfl
@[simp] theorem ev_dic0 : eDic0 e m = .ok (.own (.dic [])) e m := rfl
@[simp] theorem ev_dicI (i j : Int) : eDicI i j e m = .ok (.own (.dic [(.int i, .int j)])) e m := rfl
@[simp] theorem to_ok (v : SV) : (FR.ok v m).to e = .ok v e m := rfl
@[simp] theorem to_err (x : Xn) : (FR.err x m).to e = .err x e m := rfl
@[simp] theorem to_stuck : (FR.stuck).to e = .stuck := rfl
@[simp] theorem ev_callD (f : FT) (dd : List D) (es : EM (List D)) : eCallD f dd es e m = (es e m).bind fun ds e m => (f (ds ++ dd) m).to e := rfl
@[simp] theorem ev_callK (f : FT) (ss : List Src) (dd : List D) (es kws : EM (List D)) : eCallK f ss dd es kws e m = (es e m).bind fun ds => EM.bind kws fun zs e m => (f (pickL ss ds dd zs) m).to e := rfl
@[simp] theorem ev_isN (a : EM PV) : tIsN a e m = (a e m).bind fun p => EM.bind p.now fun d => EM.pure d.isNon := rfl
@[simp] theorem ev_isNN (a : EM PV) : tIsNN a e m = (a e m).bind fun p => EM.bind p.now fun d => EM.pure (!d.isNon) := rfl
@[simp] theorem ev_truN (a : EM PV) : tTruN a e m = (a e m).bind fun x => EM.bind x.now fun x => EM.lift (truthyN x) := rfl
@[simp] theorem tru_bl (b : Bool) : truthyN (.bl b) = some b := rfl
@[simp] theorem tru_int (b : Int) : truthyN (.int b) = some (b != 0) := rfl
@[simp] theorem tru_lst (b : List D) : truthyN (.lst b) = some (!b.isEmpty) := rfl
@[simp] theorem tru_tup (b : List D) : truthyN (.tup b) = some (!b.isEmpty) := rfl
@[simp] theorem tru_str (b : List Nat) : truthyN (.str b) = some (b.length != 0) := rfl
@[simp] theorem ev_and (a b : EM Bool) : tAnd a b e m = (a e m).bind fun x => if x then b else EM.pure false := rfl
@[simp] theorem ev_or (a b : EM Bool) : tOr a b e m = (a e m).bind fun x => if x then EM.pure true else b := rfl
@[simp] theorem ev_not (a : EM Bool) : tNot a e m = (a e m).bind fun x => EM.pure (!x) := rfl
@[simp] theorem ev_bool (a : EM Bool) : eBool a e m = (a e m).bind fun x => EM.pure (.val (.bl x)) := rfl
@[simp] theorem ev_ite (c : EM Bool) (a b : EM SV) : eIte c a b e m = (c e m).bind fun x => if x then a else b := rfl
@[simp] theorem ev_t2 (f : D → D → Option Bool) (a b : EM PV) : t2 f a b e m = (a e m).bind fun x => EM.bind b fun y => EM.bind x.now fun x => EM.bind y.now fun y => EM.lift (f x y) := rfl
@[simp] theorem ev_t3 (f g : D → D → Option Bool) (a b c : EM PV) : t3 f g a b c e m = (a e m).bind fun x => EM.bind b fun y => EM.bind x.now fun x => EM.bind y.now fun y' => EM.bind (EM.lift (f x y')) fun k =>
  if k then EM.bind c fun z => EM.bind y.now fun y => EM.bind z.now fun z => EM.lift (g y z) else EM.pure false := rfl
@[simp] theorem ite_ap (c : Prop) [Decidable c] (x y : EM α) : (if c then x else y) e m = if c then x e m else y e m := by split <;> rfl
@[simp] theorem ev_exp (x : EM SV) : sExp x e m = (x e m).bind fun _ => EM.pure .nx := rfl
@[simp] theorem ev_ret (x : EM SV) : sRet x e m = (x e m).bind fun s => EM.pure (.ret s) := rfl
@[simp] theorem ev_retN : sRetN e m = .ok (.ret (.val .non)) e m := rfl
@[simp] theorem ev_pass : sPass e m = .ok .nx e m := rfl
@[simp] theorem ev_brk : sBrk e m = .ok .bk e m := rfl
@[simp] theorem ev_cnt : sCnt e m = .ok .ct e m := rfl
def tgR (e : Env) (m : MH) : Option Env → Res Unit
  | some e' => .ok () e' m
  | none => .stuck
@[simp] theorem tgR_s (e' : Env) : tgR e m (some e') = .ok () e' m := rfl
@[simp] theorem ev_tg (t : TG) (d : D) : TG.em t d e m = tgR e m (t d e) := by unfold TG.em tgR; cases t d e <;> rfl
@[simp] theorem g_nm (i : Nat) (d : D) : gNm i d e = some (e.set i (some (.val d))) := rfl
@[simp] theorem g_go0 : gGo [] [] e = some e := rfl
@[simp] theorem g_go1 (t : TG) (ts : List TG) (d : D) (ds : List D) : gGo (t :: ts) (d :: ds) e = (t d e).bind fun e => gGo ts ds e := rfl
@[simp] theorem g_tup (ts : List TG) (ds : List D) : gTup ts (.tup ds) e = gGo ts ds e := rfl
@[simp] theorem g_tupw (ts : List TG) (ds : List D) : gTup ts (.tupw ds) e = gGo ts ds e := rfl
@[simp] theorem ev_set (i : Nat) (x : EM SV) : sSet i x e m = (x e m).bind fun s e m => .ok .nx (e.set i (some s)) m := rfl
@[simp] theorem ev_setF (i : Nat) (x : EM SV) : sSetF i x e m = (x e m).bind fun s e m => .ok .nx (e.set i (some (.val s.d))) m := rfl
@[simp] theorem ev_asg (t : TG) (x : EM SV) : sAsg t x e m = (x e m).bind fun s => EM.bind (TG.em t s.d) fun _ => EM.pure .nx := rfl
/-- what comes behind a statement -/
def seqR (b : EM Fl) : Fl → EM Fl
  | .nx => b
  | f => EM.pure f
@[simp] theorem seqR_n (b : EM Fl) : seqR b .nx = b := rfl
@[simp] theorem seqR_b (b : EM Fl) : seqR b .bk = EM.pure .bk := rfl
@[simp] theorem seqR_c (b : EM Fl) : seqR b .ct = EM.pure .ct := rfl
@[simp] theorem seqR_r (b : EM Fl) (s : SV) : seqR b (.ret s) = EM.pure (.ret s) := rfl
@[simp] theorem ev_seq (a b : EM Fl) : sSeq a b e m = (a e m).bind (seqR b) := by
  show (a e m).bind _ = _
  congr 1
@[simp] theorem ev_if (c : EM Bool) (a b : EM Fl) : sIf c a b e m = (c e m).bind fun x => if x then a else b := rfl
@[simp] theorem ev_for (t : TG) (it : EM (List D)) (b : EM Fl) : sFor t it b e m = (it e m).bind fun ds => sForGo t b ds := rfl
@[simp] theorem ev_nowL0 : nowL [] e m = .ok [] e m := rfl
@[simp] theorem ev_nowL1 (p : PV) (ps : List PV) : nowL (p :: ps) e m = (p.now e m).bind fun d => EM.bind (nowL ps) fun ds => EM.pure (d :: ds) := rfl
@[simp] theorem ev_B (f : List D → Option SV) (es : EM (List PV)) : eB f es e m = (es e m).bind fun ps => EM.bind (nowL ps) fun ds => EM.lift (f ds) := rfl
@[simp] theorem ev_BK (f : List D → List D → Option SV) (es : EM (List PV)) (ks : EM (List D)) : eBK f es ks e m = (es e m).bind fun ps => EM.bind ks fun zs => EM.bind (nowL ps) fun ds => EM.lift (f ds zs) := rfl
@[simp] theorem ev_rev (a : EM PV) : eRev a e m = (a e m).bind fun p => EM.bind p.now fun d => EM.lift (fRev d) := rfl
@[simp] theorem fRev_t (x : List D) : fRev (.tup x) = some (.val (.tup x.reverse)) := rfl
@[simp] theorem fRev_l (x : List D) : fRev (.lst x) = some (.own (.lst x.reverse)) := rfl
def augR (i : Nat) (f : Int → Int → Int) (x : EM SV) : Option SV → Res Fl
  | some (.val (.int a)) => EM.bind x (augK i f a) e m
  | _ => .stuck
@[simp] theorem ev_aug (i : Nat) (f : Int → Int → Int) (x : EM SV) : sAug i f x e m = augR e m i f x (e.getD i none) := by
  unfold sAug augR
  split <;> simp_all
@[simp] theorem augR_i (i : Nat) (f : Int → Int → Int) (x : EM SV) (a : Int) : augR e m i f x (some (.val (.int a))) = (x e m).bind (augK i f a) := rfl
@[simp] theorem augK_i (i : Nat) (f : Int → Int → Int) (a b : Int) : augK i f a (.val (.int b)) = fun e m => .ok .nx (e.set i (some (.val (.int (f a b))))) m := rfl
@[simp] theorem ev_M (T : Ty) (f : D → List D → Option SV) (a : EM PV) (es : EM (List PV)) : eM T f a es e m = (a e m).bind fun p => EM.bind p.now fun d0 => if T.has d0 then
  EM.bind es fun ps => EM.bind p.now fun d => EM.bind (nowL ps) fun ds => EM.lift (f d ds) else fun _ _ => .stuck := rfl
@[simp] theorem has_l (x : List D) : Ty.list.has (.lst x) = true := rfl
@[simp] theorem has_t (x : List D) : Ty.tuple.has (.tup x) = true := rfl
@[simp] theorem has_d (x : List (D × D)) : Ty.dict.has (.dic x) = true := rfl
@[simp] theorem has_s (x : List Nat) : Ty.str.has (.str x) = true := rfl
/-- a slot's object changed -/
def chgR (i : Nat) (f : MO → Option (D × MO)) : Option SV → Res SV
  | some (.own o) => match f o with
    | some (d, o') => .ok (.val d) (e.set i (some (.own o'))) m
    | none => .stuck
  | _ => .stuck
def chgO (n : Nat) (f : MO → Option (D × MO)) : Option MO → Res SV
  | some o => match f o with
    | some (d, o') => .ok (.val d) e (m.set n o')
    | none => .stuck
  | none => .stuck
def chg1 (k : D → MO → Res SV) : Option (D × MO) → Res SV
  | some (d, o') => k d o'
  | none => .stuck
@[simp] theorem chg1_s (k : D → MO → Res SV) (d : D) (o : MO) : chg1 k (some (d, o)) = k d o := rfl
@[simp] theorem chgR_o (i : Nat) (f : MO → Option (D × MO)) (o : MO) : chgR e m i f (some (.own o)) = chg1 (fun d o' => .ok (.val d) (e.set i (some (.own o'))) m) (f o) := by
  show (match f o with | some (d, o') => _ | none => _) = _
  cases f o <;> rfl
@[simp] theorem chgO_s (n : Nat) (f : MO → Option (D × MO)) (o : MO) : chgO e m n f (some o) = chg1 (fun d o' => .ok (.val d) e (m.set n o')) (f o) := by
  show (match f o with | some (d, o') => _ | none => _) = _
  cases f o <;> rfl
@[simp] theorem chg_sl (i : Nat) (f : MO → Option (D × MO)) : (PV.sl i).chg f e m = chgR e m i f (e.getD i none) := by
  show (match e.getD i none with | some (.own o) => _ | _ => _) = _
  cases e.getD i none with
  | none => rfl
  | some s => cases s <;> rfl
@[simp] theorem chg_obj (n : Nat) (f : MO → Option (D × MO)) : (PV.v (.obj n)).chg f e m = chgO e m n f m[n]? := by
  simp only [PV.chg, chgO]
  all_goals (cases m[n]? <;> rfl)
@[simp] theorem ev_mut (T : Ty) (f : MO → List D → Option (D × MO)) (a : EM PV) (es : EM (List D)) : eMut T f a es e m = (a e m).bind fun p => EM.bind p.now fun d0 => if T.has d0 then
  EM.bind es fun ds => p.chg fun o => f o ds else fun _ _ => .stuck := rfl
@[simp] theorem ev_put (f : MO → D → D → Option MO) (v : EM D) (o : EM PV) (i : EM D) : sPut f v o i e m = (v e m).bind fun d => EM.bind o fun p => EM.bind i fun k => EM.bind (p.chg fun u => (f u k d).map fun u' => (.non, u')) fun _ => EM.pure .nx := rfl
def andK (b : EM SV) : SV → EM SV
  | .val (.bl true) => b
  | .val (.bl false) => EM.pure (.val (.bl false))
  | _ => fun _ _ => .stuck
def orK (b : EM SV) : SV → EM SV
  | .val (.bl true) => EM.pure (.val (.bl true))
  | .val (.bl false) => b
  | _ => fun _ _ => .stuck
def notK : SV → EM SV
  | .val (.bl b) => EM.pure (.val (.bl (!b)))
  | _ => fun _ _ => .stuck
@[simp] theorem andK_b (b : EM SV) (x : Bool) : andK b (.val (.bl x)) = if x then b else EM.pure (.val (.bl false)) := by cases x <;> rfl
@[simp] theorem orK_b (b : EM SV) (x : Bool) : orK b (.val (.bl x)) = if x then EM.pure (.val (.bl true)) else b := by cases x <;> rfl
@[simp] theorem notK_b (x : Bool) : notK (.val (.bl x)) = EM.pure (.val (.bl (!x))) := rfl
@[simp] theorem ev_andV (a b : EM SV) : eAndV a b e m = (a e m).bind (andK b) := by
  show (a e m).bind _ = _
  congr 1
@[simp] theorem ev_orV (a b : EM SV) : eOrV a b e m = (a e m).bind (orK b) := by
  show (a e m).bind _ = _
  congr 1
@[simp] theorem ev_notV (a : EM SV) : eNotV a e m = (a e m).bind notK := by
  show (a e m).bind _ = _
  congr 1
@[simp] theorem ev_itSeq (x : EM SV) : itSeq x e m = (x e m).bind fun s => EM.lift (itemsOf s.d) := rfl
@[simp] theorem items_l (x : List D) : itemsOf (.lst x) = some x := rfl
@[simp] theorem items_t (x : List D) : itemsOf (.tup x) = some x := rfl
@[simp] theorem items_tw (x : List D) : itemsOf (.tupw x) = some x := rfl
@[simp] theorem items_s (x : List Nat) : itemsOf (.str x) = some (x.map fun c => .str [c]) := rfl
@[simp] theorem ev_itBy (f : D → Option (List D)) (x : EM SV) : itBy f x e m = (x e m).bind fun s => EM.lift (f s.d) := rfl
def r1K : List D → EM (List D)
  | [.int n] => if -100000 ≤ n ∧ n ≤ 100000 then EM.pure (rangeD 0 n) else fun _ _ => .stuck
  | _ => fun _ _ => .stuck
@[simp] theorem r1K_i (n : Int) : r1K [.int n] = if -100000 ≤ n ∧ n ≤ 100000 then EM.pure (rangeD 0 n) else fun _ _ => .stuck := rfl
@[simp] theorem ev_itR1 (es : EM (List PV)) : itR1 es e m = (es e m).bind fun ps => EM.bind (nowL ps) r1K := by
  show (es e m).bind _ = _
  congr 1
def r2K : List D → EM (List D)
  | [.int a, .int b] => if (-100000 ≤ a ∧ a ≤ 100000) ∧ -100000 ≤ b ∧ b ≤ 100000 then EM.pure (rangeD a b) else fun _ _ => .stuck
  | _ => fun _ _ => .stuck
@[simp] theorem r2K_i (a b : Int) : r2K [.int a, .int b] = if (-100000 ≤ a ∧ a ≤ 100000) ∧ -100000 ≤ b ∧ b ≤ 100000 then EM.pure (rangeD a b) else fun _ _ => .stuck := rfl
@[simp] theorem ev_itR2 (es : EM (List PV)) : itR2 es e m = (es e m).bind fun ps => EM.bind (nowL ps) r2K := by
  show (es e m).bind _ = _
  congr 1
def partK : D → EM (Option Int)
  | .int i => EM.pure (some i)
  | _ => fun _ _ => .stuck
@[simp] theorem partK_i (i : Int) : partK (.int i) = EM.pure (some i) := rfl
@[simp] theorem ev_part (a : EM PV) : ePart a e m = (a e m).bind fun p => EM.bind p.now partK := by
  show (a e m).bind _ = _
  congr 1
@[simp] theorem ev_noPart : eNoPart e m = .ok none e m := rfl
@[simp] theorem ev_cut (a : EM PV) (lo hi : EM (Option Int)) : eCut a lo hi e m = (a e m).bind fun p => EM.bind lo fun l => EM.bind hi fun h => EM.bind p.now fun d => EM.lift (fCut d l h) := rfl
def shareK : SV → EM SV
  | .own o => fun e M => .ok (.val (.obj M.length)) e (M ++ [o])
  | .val d => EM.pure (.val d)
@[simp] theorem shareK_o (o : MO) : shareK (.own o) e m = .ok (.val (.obj m.length)) e (m ++ [o]) := rfl
@[simp] theorem ev_share (x : EM SV) : eShare x e m = (x e m).bind shareK := by
  show (x e m).bind _ = _
  congr 1
@[simp] theorem fr_nx : (Res.ok Fl.nx e m).fr = .ok (.val .non) m := rfl
@[simp] theorem fr_ret (s : SV) : (Res.ok (Fl.ret s) e m).fr = .ok s m := rfl
@[simp] theorem fr_err (x : Xn) : (Res.err x e m : Res Fl).fr = .err x m := rfl
@[simp] theorem fr_stuck : (Res.stuck : Res Fl).fr = .stuck := rfl
@[simp] theorem ev_mkF (np ns : Nat) (b : EM Fl) (ds : List D) : mkF np ns b ds m = if ds.length = np then (b (startE ns ds) m).fr else .stuck := rfl
@[simp] theorem start_eq (ns : Nat) (ds : List D) : startE ns ds = ds.map (fun d => some (SV.val d)) ++ List.replicate (ns - ds.length) none := rfl
@[simp] theorem yes_eq : tYes e m = .ok true e m := rfl
end
/-! ### comprehensions -/
section
variable {t : TG} {it : EM (List D)} {c : EM Bool} {x : EM D} {own : List Nat} {e e1 : Env} {m m1 : MH} {ds : List D}
theorem set_getD (e : Env) (v : Nat) : e.set v (e.getD v none) = e := by
  apply List.ext_getElem?
  intro i
  rw [List.getElem?_set]
  split
  · rename_i h
    subst h
    rw [List.getD_eq_getElem?_getD]
    split
    · rename_i h
      rw [List.getElem?_eq_getElem h] <;> rfl
    · rename_i h
      rw [List.getElem?_eq_none (by omega)]
  · rfl
/-- a comprehension without effect: E the names while an item is looked at -/
theorem lcGo_pure {α : Type} (g : α → D) (E : α → Env) (p : α → Bool) (f : α → D) (e1 : Env) : ∀ (L : List α) (e' : Env), (e' = e1 ∨ ∃ d', e' = E d') →
    (∀ d ∈ L, t (g d) (wipeE own e1) = some (E d)) → (∀ d', wipeE own (E d') = wipeE own e1) →
    (∀ d ∈ L, c (E d) m = .ok (p d) (E d) m) → (∀ d ∈ L, p d = true → x (E d) m = .ok (f d) (E d) m) →
    ∃ e2, lcGo t c x own (L.map g) e' m = .ok ((L.filter p).map f) e2 m ∧ (e2 = e1 ∨ ∃ d', e2 = E d')
  | [], e', h, _, _, _, _ => ⟨e', rfl, h⟩
  | d :: ds, e', h, h1, h2, h3, h4 => by
    have hw : wipeE own e' = wipeE own e1 := by
      rcases h with rfl | ⟨d', rfl⟩
      · rfl
      · exact h2 d'
    obtain ⟨e2, q, r⟩ := lcGo_pure g E p f e1 ds (E d) (.inr ⟨d, rfl⟩) (fun y hy => h1 y (List.mem_cons_of_mem _ hy)) h2 (fun y hy => h3 y (List.mem_cons_of_mem _ hy)) (fun y hy => h4 y (List.mem_cons_of_mem _ hy))
    refine ⟨e2, ?_, r⟩
    have k1 := h1 d (List.mem_cons_self ..)
    have k3 := h3 d (List.mem_cons_self ..)
    rw [List.map_cons]
    unfold lcGo
    simp only [hw, k1]
    rw [k3]
    simp only [bind_ok]
    by_cases hp : p d = true
    · have k4 := h4 d (List.mem_cons_self ..) hp
      simp only [hp, if_true, bind_ap, k4, bind_ok, q, pure_ap, List.filter_cons, List.map_cons]
    · have hp : p d = false := by simpa using hp
      simp only [hp, Bool.false_eq_true, if_false, q, List.filter_cons]
theorem ev_lcE {α : Type} {L : List α} (g : α → D) (E : α → Env) (p : α → Bool) (f : α → D) (hit : it e m = .ok (L.map g) e1 m1) (ho : okOwn own e1 = true)
    (h1 : ∀ d ∈ L, t (g d) (wipeE own e1) = some (E d)) (h2 : ∀ d', wipeE own (E d') = wipeE own e1) (hb : ∀ d', backE own e1 (E d') = e1) (hb0 : backE own e1 e1 = e1)
    (h3 : ∀ d ∈ L, c (E d) m1 = .ok (p d) (E d) m1) (h4 : ∀ d ∈ L, p d = true → x (E d) m1 = .ok (f d) (E d) m1) :
    eLc t it c x own e m = .ok (.own (.lst ((L.filter p).map f))) e1 m1 := by
  obtain ⟨e2, q, r⟩ := lcGo_pure (t := t) (c := c) (x := x) (own := own) (m := m1) g E p f e1 L e1 (.inl rfl) h1 h2 h3 h4
  unfold eLc
  simp only [bind_ap, hit, bind_ok, ho, if_true, q]
  rcases r with rfl | ⟨d', rfl⟩
  · rw [hb0]
  · rw [hb]
theorem back1 (v : Nat) (e1 : Env) (s : Option SV) : backE [v] e1 (e1.set v s) = e1 := by
  show (List.set _ v s).set v (e1.getD v none) = e1
  rw [List.set_set, set_getD]
/-- for v in .. : one name -/
theorem ev_lc1G {α : Type} {L : List α} {v : Nat} (g : α → D) (p : α → Bool) (f : α → D) (hit : it e m = .ok (L.map g) e1 m1) (ho : notOwn (e1.getD v none) = true)
    (h3 : ∀ d ∈ L, c (e1.set v (some (.val (g d)))) m1 = .ok (p d) (e1.set v (some (.val (g d)))) m1) (h4 : ∀ d ∈ L, p d = true → x (e1.set v (some (.val (g d)))) m1 = .ok (f d) (e1.set v (some (.val (g d)))) m1) :
    eLc (gNm v) it c x [v] e m = .ok (.own (.lst ((L.filter p).map f))) e1 m1 := by
  refine ev_lcE g (fun d => e1.set v (some (.val (g d)))) p f hit (by unfold okOwn; rw [List.all_cons, ho]; rfl) (fun d _ => ?_) (fun d => ?_) (fun d => back1 v e1 _) ?_ h3 h4
  · show some (List.set (List.set e1 v none) v (some (.val (g d)))) = _
    rw [List.set_set]
  · show List.set (List.set e1 v _) v none = List.set e1 v none
    rw [List.set_set]
  · show List.set e1 v (e1.getD v none) = e1
    exact set_getD e1 v
/-- without a test -/
theorem ev_lcAG {α : Type} {L : List α} {v : Nat} (g : α → D) (f : α → D) (hit : it e m = .ok (L.map g) e1 m1) (ho : notOwn (e1.getD v none) = true)
    (h4 : ∀ d ∈ L, x (e1.set v (some (.val (g d)))) m1 = .ok (f d) (e1.set v (some (.val (g d)))) m1) :
    eLc (gNm v) it tYes x [v] e m = .ok (.own (.lst (L.map f))) e1 m1 := by
  rw [ev_lc1G (c := tYes) g (fun _ => true) f hit ho (fun d _ => rfl) fun d hd _ => h4 d hd, List.filter_eq_self.mpr fun _ _ => rfl]
/-- the names stay as they are while the walk is made -/
theorem ev_lc1 {α : Type} {L : List α} {v : Nat} (g : α → D) (p : α → Bool) (f : α → D) (hit : it e m = .ok (L.map g) e m) (ho : notOwn (e.getD v none) = true)
    (h3 : ∀ d ∈ L, c (e.set v (some (.val (g d)))) m = .ok (p d) (e.set v (some (.val (g d)))) m) (h4 : ∀ d ∈ L, p d = true → x (e.set v (some (.val (g d)))) m = .ok (f d) (e.set v (some (.val (g d)))) m) :
    eLc (gNm v) it c x [v] e m = .ok (.own (.lst ((L.filter p).map f))) e m := ev_lc1G g p f hit ho h3 h4
theorem ev_lcA {α : Type} {L : List α} {v : Nat} (g : α → D) (f : α → D) (hit : it e m = .ok (L.map g) e m) (ho : notOwn (e.getD v none) = true)
    (h4 : ∀ d ∈ L, x (e.set v (some (.val (g d)))) m = .ok (f d) (e.set v (some (.val (g d)))) m) :
    eLc (gNm v) it tYes x [v] e m = .ok (.own (.lst (L.map f))) e m := ev_lcAG g f hit ho h4
end
end PI
namespace PI
open PySem
/-! ### loops -/
section
variable {t : TG} {b : EM Fl}
def loopK (t : TG) (b : EM Fl) (ds : List D) : Fl → EM Fl
  | .nx => sForGo t b ds
  | .ct => sForGo t b ds
  | .bk => EM.pure .nx
  | .ret s => EM.pure (.ret s)
@[simp] theorem loopK_n (ds : List D) : loopK t b ds .nx = sForGo t b ds := rfl
@[simp] theorem loopK_c (ds : List D) : loopK t b ds .ct = sForGo t b ds := rfl
@[simp] theorem loopK_b (ds : List D) : loopK t b ds .bk = EM.pure .nx := rfl
@[simp] theorem loopK_r (ds : List D) (s : SV) : loopK t b ds (.ret s) = EM.pure (.ret s) := rfl
@[simp] theorem for_nil (e : Env) (m : MH) : sForGo t b [] e m = .ok .nx e m := rfl
theorem for_cons (d : D) (ds : List D) (e : Env) (m : MH) : sForGo t b (d :: ds) e m = (TG.em t d e m).bind fun _ => EM.bind b (loopK t b ds) := by
  show (TG.em t d e m).bind _ = _
  congr 1
end
end PI
namespace PI
open PySem
/-! ### what holds behind a run -/
def Wp {α : Type} (r : Res α) (k : α → Env → MH → Prop) : Prop := match r with
  | .ok a e m => k a e m
  | _ => False
@[simp] theorem wp_ok {α : Type} (a : α) (e : Env) (m : MH) (k : α → Env → MH → Prop) : Wp (.ok a e m) k = k a e m := rfl
theorem Wp.ex {α : Type} {r : Res α} {k : α → Env → MH → Prop} (h : Wp r k) : ∃ a e m, r = .ok a e m ∧ k a e m := by
  cases r with
  | ok a e m => exact ⟨a, e, m, rfl, h⟩
  | err _ _ _ => exact h.elim
  | stuck => exact h.elim
theorem wp_bind {α β : Type} (r : Res α) (f : α → EM β) (k : β → Env → MH → Prop) : Wp (r.bind f) k = Wp r fun a e m => Wp (f a e m) k := by
  cases r <;> rfl
theorem Wp.mono {α : Type} {r : Res α} {k k' : α → Env → MH → Prop} (h : Wp r k) (w : ∀ a e m, k a e m → k' a e m) : Wp r k' := by
  cases r with
  | ok a e m => exact w a e m h
  | err _ _ _ => exact h.elim
  | stuck => exact h.elim
def loopI (I : Env → MH → Prop) (k : Fl → Env → MH → Prop) : Fl → Env → MH → Prop
  | .nx => I
  | .ct => I
  | .bk => k .nx
  | .ret s => k (.ret s)
@[simp] theorem loopI_n (I : Env → MH → Prop) (k : Fl → Env → MH → Prop) : loopI I k .nx = I := rfl
@[simp] theorem loopI_c (I : Env → MH → Prop) (k : Fl → Env → MH → Prop) : loopI I k .ct = I := rfl
@[simp] theorem loopI_b (I : Env → MH → Prop) (k : Fl → Env → MH → Prop) : loopI I k .bk = k .nx := rfl
@[simp] theorem loopI_r (I : Env → MH → Prop) (k : Fl → Env → MH → Prop) (s : SV) : loopI I k (.ret s) = k (.ret s) := rfl
/-- a walk over items made of a list, by what holds ahead of each turn -/
theorem wp_loop {α : Type} {t : TG} {b : EM Fl} (g : α → D) (I : List α → Env → MH → Prop) (k : Fl → Env → MH → Prop)
    (hs : ∀ x rest e m, I (x :: rest) e m → Wp ((tgR e m (t (g x) e)).bind fun _ => b) (loopI (I rest) k))
    (he : ∀ e m, I [] e m → k .nx e m) : ∀ L e m, I L e m → Wp (sForGo t b (L.map g) e m) k
  | [], e, m, h => he e m h
  | x :: L, e, m, h => by
    have h1 := hs x L e m h
    rw [List.map_cons, for_cons, ev_tg]
    rw [wp_bind] at h1 ⊢
    refine h1.mono fun _ e1 m1 h2 => ?_
    show Wp ((b e1 m1).bind _) k
    rw [wp_bind]
    refine Wp.mono h2 fun fl e2 m2 h3 => ?_
    cases fl with
    | nx => exact wp_loop g I k hs he L e2 m2 h3
    | ct => exact wp_loop g I k hs he L e2 m2 h3
    | bk => exact h3
    | ret s => exact h3
end PI
namespace PI
open PySem
/-! ### comprehensions with effects -/
end PI
/-! PILimD: values without exceptions, with shared objects of low numbers alone. -/
namespace PI
open PySem
mutual
/-- no exception within (x: they may be); shared objects below b alone -/
def D.lim (x : Bool) (b : Nat) : D → Bool
  | .obj n => decide (n < b)
  | .exn c fs => (x || decide (1000 ≤ c)) && limF x b fs
  | .ins _ fs => limF x b fs
  | .tup ds => limL x b ds
  | .tupw ds => limL x b ds
  | .lst ds => limL x b ds
  | .dic kvs => limK x b kvs
  | .non => true
  | .bl _ => true
  | .int _ => true
  | .str _ => true
  | .fn _ => true
  | .cls _ => true
  | .ty _ => true
def limL (x : Bool) (b : Nat) : List D → Bool
  | [] => true
  | d :: ds => d.lim x b && limL x b ds
def limK (x : Bool) (b : Nat) : List (D × D) → Bool
  | [] => true
  | (k, d) :: r => k.lim x b && d.lim x b && limK x b r
def limF (x : Bool) (b : Nat) : List (Nat × D) → Bool
  | [] => true
  | (_, d) :: r => d.lim x b && limF x b r
end
def MO.lim (x : Bool) (b : Nat) : MO → Bool
  | .lst ds => limL x b ds
  | .dic kvs => limK x b kvs
  | .ins _ fs => limF x b fs
/-- a value that hangs on no exception, no shared object -/
abbrev D.okR (d : D) : Bool := d.lim false 0
end PI
/-! PIExc: raise, try, isinstance of a caught exception. -/
namespace PI
open PySem
def sRaise (c : Nat) : EM Fl := fun e M => .err ⟨c, []⟩ e M
/-- try: body, except as e (slot i): return h(e) -/
def tryK (n i : Nat) (sub : Nat → Bool) (h : Xn → Option D) : Res Fl → Res Fl
  | .err x e M => if x.c < n then (if sub x.c then (if limF false 0 x.fs && decide (i < e.length) then (match h x with
    | some d => .ok (.ret (.val d)) e M
    | none => .stuck) else .stuck) else .err x e M) else .stuck
  | r => r
def sTryW (n i : Nat) (sub : Nat → Bool) (h : Xn → Option D) (body : EM Fl) : EM Fl := fun e M => tryK n i sub h (body e M)
/-- a handler by a def's meaning -/
def hotOf (f : FT) (x : Xn) : Option D := if x.c < 1000 then (match f [.exn x.c x.fs] [] with
  | .ok (.val d) [] => if d.okR then some d else none
  | _ => none) else none
theorem hotOf_lt {f : FT} {x : Xn} {d : D} (h : hotOf f x = some d) : x.c < 1000 := by
  unfold hotOf at h
  split at h
  · assumption
  · cases h
def inMro (l : List D) : D → Option Bool
  | .cls n => some (l.any (isK (.cls n)))
  | .ty n => some (l.any (isK (.ty n)))
  | .tup ks => if ks.all D.isCls then some (ks.any fun k => l.any (isK k)) else none
  | _ => none
def fIsX (mro : Nat → List D) : List D → Option SV
  | [.exn c _, k] => (inMro (mro c) k).map fun b => .val (.bl b)
  | _ => none
/-- a.split(b) -/
def fSplit : D → List D → Option SV
  | .str a, [.str b] => if (!b.isEmpty && b.all (· < 256)) && (decide (a.length + 2 ≤ 1000000) && (TL.spl b 0 [] a).all (fun p => decide (p.length ≤ 1000000))) then some (.own (.lst ((TL.spl b 0 [] a).map .str))) else none
  | _, _ => none
/-- the second argument is one of these -/
def okK (ks : List D) : D → Bool
  | .tup l => l.all fun d => ks.any fun k => isK k d
  | d => ks.any fun k => isK k d
/-- a field of the handled exception -/
def fXf (f : Nat) : D → Option SV
  | .exn c fs => if c < 1000 then (fs.lookup f).map .val else none
  | _ => none
/-- the class of an exception; of one that is a value, 1000 less -/
def cN (c : Nat) : Nat := if c < 1000 then c else c - 1000
def fIsX2 (mro : Nat → List D) (n : Nat) (ks : List D) : List D → Option SV
  | [.exn c fs, k] => if okK ks k && decide (cN c < n) then fIsX mro [.exn (cN c) fs, k] else none
  | _ => none
/-- a field of an exception that is a value -/
def fXv (n f : Nat) : D → Option SV
  | .exn c fs => if 1000 ≤ c ∧ c - 1000 < n then (fs.lookup f).map .val else none
  | _ => none
end PI
/-! PIEvX: raise and try run by simp. -/
namespace PI
open PySem
section
variable (e : Env) (m : MH)
@[simp] theorem ev_raise (c : Nat) : sRaise c e m = .err ⟨c, []⟩ e m := rfl
@[simp] theorem ev_tryW (n i : Nat) (sub : Nat → Bool) (h : Xn → Option D) (b : EM Fl) : sTryW n i sub h b e m = tryK n i sub h (b e m) := rfl
@[simp] theorem tryK_ok (n i : Nat) (sub : Nat → Bool) (h : Xn → Option D) (a : Fl) : tryK n i sub h (.ok a e m) = .ok a e m := rfl
@[simp] theorem fr_err2 (x : Xn) : (Res.err x e m : Res Fl).fr = .err x m := rfl
end
end PI
/-! PIFun3: times, isinstance of several types, repr of all data, int of a truth, calls of values, tables, pairs of names. -/
namespace PI
open PySem
/-- list * n, tuple * n -/
def fMulX : D → D → Option SV
  | .lst xs, .int n => if -(2 ^ 63) ≤ n ∧ n < 2 ^ 63 ∧ xs.length * n.toNat ≤ 1000000 then some (.own (.lst (List.replicate n.toNat xs).flatten)) else none
  | .tup xs, .int n => if xs ≠ [] ∧ 1 ≤ n ∧ n ≤ 1000 ∧ xs.length ≤ 1000 then sv (.tup (List.replicate n.toNat xs).flatten) else none
  | x, y => fMul x y
/-- repr of any data -/
def reprOkA (p : PyData) : Bool := p.showable && decide (p.depth ≤ 60) && decide (p.shown.length ≤ 1000000)
def fReprA : List D → Option SV
  | [d] => match d with
    | .tupw _ => none
    | d => (dat d).bind fun p => if reprOkA p then sv (.str p.shown.cps.toList) else none
  | _ => none
/-- list(range(n)) -/
def eListR (es : EM (List PV)) : EM SV := EM.bind (itR1 es) fun ds => EM.pure (.own (.lst ds))
/-- a value called -/
def eCallV (tbl : Nat → Option FT) (f : EM SV) (es : EM (List D)) : EM SV := EM.bind f fun s => match s with
  | .val (.fn i) => match tbl i with
    | some F => EM.bind es fun ds e m => (F ds m).to e
    | none => fun _ _ => .stuck
  | _ => fun _ _ => .stuck
/-- a table of the text by words: the object .cls (1000 + i) -/
def tabGet (tb : List (List Nat × D)) (k : List Nat) : Option D := (tb.find? fun p => p.1 == k).map (·.2)
def fIxT (tbs : List (List (List Nat × D))) : D → D → Option SV
  | .cls c, .str z => if 1000 ≤ c then (tbs[c - 1000]?).bind fun t => (tabGet t z).map .val else none
  | x, y => fIx x y
def fInT (tbs : List (List (List Nat × D))) : D → D → Option Bool
  | .str z, .cls c => if 1000 ≤ c then (tbs[c - 1000]?).map fun t => (tabGet t z).isSome else none
  | x, y => fIn x y
def fNotInT (tbs : List (List (List Nat × D))) (x y : D) : Option Bool := (fInT tbs x y).map (!·)
/-- x, y = a, b: b may be an object of one's own -/
def sPar (i j : Nat) (a : EM D) (b : EM SV) : EM Fl := EM.bind a fun d => EM.bind b fun s e m => .ok .nx (setS (setS e i (.val d)) j s) m
/-- x, y = a, b: a may be an object of one's own, b is a constant -/
def sParC (i j : Nat) (a : EM SV) (d : D) : EM Fl := EM.bind a fun s e m => .ok .nx (setS (setS e i s) j (.val d)) m
/-- {k: x}, x a name that holds a value -/
def dicN (k : Int) (e : Env) (m : MH) : Option SV → Res SV
  | some (.val d) => .ok (.own (.dic [(.int k, d)])) e m
  | _ => .stuck
def eDicN (k : Int) (i : Nat) : EM SV := fun e m => dicN k e m (e.getD i none)
end PI
namespace PI
end PI
namespace PI
/-- x, y = a, [] -/
def sParL (i j : Nat) (a : EM SV) : EM Fl := EM.bind a fun s e m => .ok .nx (setS (setS e i s) j (.own (.lst []))) m
end PI
/-! PILib: the built-in operators on values of a known kind; dicts with numbers as keys; sorted numbers. -/
namespace PI
open PySem
section
variable {i j : Int} {a b : List Nat} {x y : List D} {n : Nat}
@[simp] theorem fAdd_i : fAdd (.int i) (.int j) = some (.val (.int (i + j))) := rfl
@[simp] theorem fSub_i : fSub (.int i) (.int j) = some (.val (.int (i - j))) := rfl
theorem fMul_l (h : -(2 ^ 64) < i ∧ i < 2 ^ 64) : fMul (.int i) (.int j) = some (.val (.int (i * j))) := by simp only [fMul, small, h, and_self, decide_true, Bool.true_or, if_true, sv]
theorem fMul_r (h : -(2 ^ 64) < j ∧ j < 2 ^ 64) : fMul (.int i) (.int j) = some (.val (.int (i * j))) := by simp only [fMul, small, h, and_self, decide_true, Bool.or_true, if_true, sv]
theorem fDiv_i (h : 0 < j) (h2 : j < 10 ^ 30) : fDiv (.int i) (.int j) = some (.val (.int (i / j))) := by simp only [fDiv, h, h2, and_self, if_true, sv]
theorem fMod_i (h : 0 < j) : fMod (.int i) (.int j) = some (.val (.int (i % j))) := by simp only [fMod, h, if_true, sv]
@[simp] theorem fEq_i : fEq (.int i) (.int j) = some (i == j) := rfl
@[simp] theorem fEq_s : fEq (.str a) (.str b) = some (a == b) := rfl
@[simp] theorem fEq_b {a b : Bool} : fEq (.bl a) (.bl b) = some (a == b) := rfl
@[simp] theorem fNe_d {x y : D} : fNe x y = (fEq x y).map (!·) := rfl
@[simp] theorem fLt_i : fLt (.int i) (.int j) = some (decide (i < j)) := rfl
@[simp] theorem fLe_i : fLe (.int i) (.int j) = some (decide (i ≤ j)) := rfl
@[simp] theorem fGe_i : fGe (.int i) (.int j) = some (decide (j ≤ i)) := rfl
@[simp] theorem fLen_l : fLen [.lst x] = some (.val (.int x.length)) := rfl
@[simp] theorem fLen_t : fLen [.tup x] = some (.val (.int x.length)) := rfl
@[simp] theorem fLen_tw : fLen [.tupw x] = some (.val (.int x.length)) := rfl
@[simp] theorem fLen_s : fLen [.str a] = some (.val (.int a.length)) := rfl
@[simp] theorem fMin_i : fMin [.int i, .int j] = some (.val (.int (min i j))) := by
  show some (SV.val (.int (if j < i then j else i))) = _
  congr 3
  split <;> omega
@[simp] theorem fMax_i : fMax [.int i, .int j] = some (.val (.int (max i j))) := by
  show some (SV.val (.int (if j > i then j else i))) = _
  congr 3
  split <;> omega
@[simp] theorem fTuple_l : fTuple [.lst x] = some (.val (.tup x)) := rfl
@[simp] theorem fTuple_t : fTuple [.tup x] = some (.val (.tup x)) := rfl
@[simp] theorem fIx_l : fIx (.lst x) (.int i) = (atD x i).map .val := rfl
@[simp] theorem fIx_t : fIx (.tup x) (.int i) = (atD x i).map .val := rfl
@[simp] theorem fIx_tw : fIx (.tupw x) (.int i) = (atD x i).map .val := rfl
@[simp] theorem fCut_l {lo hi : Option Int} : fCut (.lst x) lo hi = some (.own (.lst (cutD x lo hi))) := rfl
@[simp] theorem fCut_t {lo hi : Option Int} : fCut (.tup x) lo hi = some (.val (.tup (cutD x lo hi))) := rfl
@[simp] theorem fCut_s {lo hi : Option Int} : fCut (.str a) lo hi = some (.val (.str (cutD a lo hi))) := rfl
@[simp] theorem pLst_l {d : D} : pLst (.lst x) (.int i) d = (ixD x.length i).map fun j => .lst (x.set j d) := rfl
theorem atD_nat {α : Type} (xs : List α) (k : Nat) (h : k < xs.length) : atD xs (k : Int) = some xs[k] := by
  unfold atD ixD
  rw [if_pos (by omega), if_pos (by omega)]
  simp [h]
@[simp] theorem atD_0 {α : Type} (a : α) (xs : List α) : atD (a :: xs) 0 = some a := by
  have := atD_nat (a :: xs) 0 (by simp)
  simpa using this
@[simp] theorem atD_1 {α : Type} (a b : α) (xs : List α) : atD (a :: b :: xs) 1 = some b := by
  have := atD_nat (a :: b :: xs) 1 (by simp)
  simpa using this
@[simp] theorem atD_2 {α : Type} (a b c : α) (xs : List α) : atD (a :: b :: c :: xs) 2 = some c := by
  have := atD_nat (a :: b :: c :: xs) 2 (by simp)
  simpa using this
end
/-! ### kinds -/
/-- a kind is known -/
def D.kd (d : D) : Bool := (tyD d).isSome
/-! ### lists of numbers, of truths -/
@[simp] theorem blsD_map {α : Type} (f : α → Bool) : ∀ xs : List α, blsD (xs.map fun x => .bl (f x)) = some (xs.map f)
  | [] => rfl
  | x :: xs => by
    show (blsD (xs.map fun x => .bl (f x))).map _ = _
    rw [blsD_map f xs] <;> rfl
@[simp] theorem intsD_map {α : Type} (f : α → Int) : ∀ xs : List α, intsD (xs.map fun x => .int (f x)) = some (xs.map f)
  | [] => rfl
  | x :: xs => by
    show (intsD (xs.map fun x => .int (f x))).map _ = _
    rw [intsD_map f xs] <;> rfl
def lI (ns : List Int) : List D := ns.map fun n => .int n
/-! ### data -/
theorem datL_map {α : Type} (f : α → D) (g : α → PyData) : ∀ (xs : List α), (∀ x ∈ xs, dat (f x) = some (g x)) → datL (xs.map f) = some (xs.map g)
  | [], _ => rfl
  | x :: xs, h => by
    show (dat (f x)).bind _ = _
    rw [h x (List.mem_cons_self ..)]
    show (datL (xs.map f)).map _ = _
    rw [datL_map f g xs fun y hy => h y (List.mem_cons_of_mem _ hy)] <;> rfl
@[simp] theorem lI_len (ns : List Int) : (lI ns).length = ns.length := List.length_map ..
end PI
namespace PI
open PySem
/-- things: of a known kind, no shared object -/
def D.thg (d : D) : Bool := d.kd && d.noObj
end PI
namespace PI
open PySem
@[simp] theorem fMinD_i {i j : Int} : fMinD [.int i, .int j] = some (.val (.int (min i j))) := by
  unfold fMinD
  rw [fMin_i]
@[simp] theorem ev_M2 (f1 f2 : D → List D → Option SV) (a : EM PV) (es : EM (List PV)) (e : Env) (m : MH) : eM2 f1 f2 a es e m = (a e m).bind fun p => EM.bind p.now fun d0 => if Ty.list.has d0 then
  EM.bind es fun ps => EM.bind p.now fun d => EM.bind (nowL ps) fun ds => EM.lift (f1 d ds) else if Ty.tuple.has d0 then
  EM.bind es fun ps => EM.bind p.now fun d => EM.bind (nowL ps) fun ds => EM.lift (f2 d ds) else fun _ _ => .stuck := rfl
@[simp] theorem has_lt (x : List D) : Ty.list.has (.tup x) = false := rfl
@[simp] theorem ev_itArgs (f : List D → Option (List D)) (es : EM (List D)) (e : Env) (m : MH) : itArgs f es e m = (es e m).bind fun ds => EM.lift (f ds) := rfl
@[simp] theorem enumOf_l (xs : List D) : enumOf [.lst xs] = some (enumG 0 xs) := rfl
@[simp] theorem enumOf_t (xs : List D) : enumOf [.tup xs] = some (enumG 0 xs) := rfl
@[simp] theorem zipOf_l (xs ys : List D) : zipOf [.lst xs, .lst ys] = some (zipG xs ys) := rfl
@[simp] theorem zipOf_t (xs ys : List D) : zipOf [.tup xs, .tup ys] = some (zipG xs ys) := rfl
end PI
/-! PIRepr: what repr gives, and that it gives it. -/
namespace PI
open PySem
mutual
def D.dp : D → Nat
  | .tup xs => dpL xs + 1
  | .tupw xs => dpL xs + 1
  | .lst xs => dpL xs + 1
  | .dic kvs => dpK kvs + 1
  | _ => 0
def dpL : List D → Nat
  | [] => 0
  | x :: xs => max x.dp (dpL xs)
def dpK : List (D × D) → Nat
  | [] => 0
  | (k, v) :: r => max (max k.dp v.dp) (dpK r)
end
end PI
namespace PI
open PySem
section
variable (e : Env) (m : MH)
@[simp] theorem ev_listR (es : EM (List PV)) : eListR es e m = (itR1 es e m).bind fun ds => EM.pure (.own (.lst ds)) := rfl
def callV (tbl : Nat → Option FT) (es : EM (List D)) : SV → EM SV
  | .val (.fn i) => match tbl i with
    | some F => EM.bind es fun ds e m => (F ds m).to e
    | none => fun _ _ => .stuck
  | _ => fun _ _ => .stuck
@[simp] theorem ev_callV (tbl : Nat → Option FT) (f : EM SV) (es : EM (List D)) : eCallV tbl f es e m = (f e m).bind (callV tbl es) := by
  show (f e m).bind _ = _
  congr 1
@[simp] theorem ev_par (i j : Nat) (a : EM D) (b : EM SV) : sPar i j a b e m = (a e m).bind fun d => EM.bind b fun s e m => .ok .nx ((e.set i (some (.val d))).set j (some s)) m := rfl
@[simp] theorem ev_parC (i j : Nat) (a : EM SV) (d : D) : sParC i j a d e m = (a e m).bind fun s e m => .ok .nx ((e.set i (some s)).set j (some (.val d))) m := rfl
@[simp] theorem ev_parL (i j : Nat) (a : EM SV) : sParL i j a e m = (a e m).bind fun s e m => .ok .nx ((e.set i (some s)).set j (some (.own (.lst [])))) m := rfl
@[simp] theorem ev_dicN (k : Int) (i : Nat) : eDicN k i e m = dicN k e m (e.getD i none) := rfl
@[simp] theorem dicN_v (k : Int) (d : D) : dicN k e m (some (.val d)) = .ok (.own (.dic [(.int k, d)])) e m := rfl
end
@[simp] theorem fIxT_0 (t : List (List Nat × D)) (r : List (List (List Nat × D))) (z : List Nat) : fIxT (t :: r) (.cls 1000) (.str z) = (tabGet t z).map .val := rfl
@[simp] theorem fIxT_1 (t t1 : List (List Nat × D)) (r : List (List (List Nat × D))) (z : List Nat) : fIxT (t :: t1 :: r) (.cls 1001) (.str z) = (tabGet t1 z).map .val := rfl
@[simp] theorem fInT_0 (t : List (List Nat × D)) (r : List (List (List Nat × D))) (z : List Nat) : fInT (t :: r) (.str z) (.cls 1000) = some (tabGet t z).isSome := rfl
@[simp] theorem fInT_1 (t t1 : List (List Nat × D)) (r : List (List (List Nat × D))) (z : List Nat) : fInT (t :: t1 :: r) (.str z) (.cls 1001) = some (tabGet t1 z).isSome := rfl
@[simp] theorem fNotInT_d (tbs : List (List (List Nat × D))) (x y : D) : fNotInT tbs x y = (fInT tbs x y).map (!·) := rfl
@[simp] theorem fMulX_i (i j : Int) : fMulX (.int i) (.int j) = fMul (.int i) (.int j) := rfl
/-! repr of any data -/
end PI
/-! PICls: instances of own classes: fields, methods, making. -/
namespace PI
open PySem
/-- o.f -/
def fFld (c f : Nat) : D → Option SV
  | .ins c' fs => if c' = c then (fs.lookup f).map .val else none
  | _ => none
def putFD (f : Nat) (v : D) : List (Nat × D) → List (Nat × D)
  | [] => [(f, v)]
  | (g, x) :: r => if g = f then (g, v) :: r else (g, x) :: putFD f v r
def mFldP (c f : Nat) (d : D) : MO → Option MO
  | .ins c' fs => if c' = c ∧ fs.length < 900 then some (.ins c (putFD f d fs)) else none
  | _ => none
/-- o.f = v -/
def sFldP (c f : Nat) (v : EM D) (o : EM PV) : EM Fl := EM.bind v fun d => EM.bind o fun p => EM.bind (p.chg fun u => (mFldP c f d u).map fun u' => (.non, u')) fun _ => EM.pure .nx
/-- o.m(..), m a method of the class c -/
def eMeth (c : Nat) (f : FT) (dd : List D) (a : EM PV) (es : EM (List D)) : EM SV := EM.bind a fun p => EM.bind p.now fun d0 => match p, d0 with
  | .v d, .ins c' _ => if c' = c then EM.bind es fun ds e m => (f (d :: (ds ++ dd)) m).to e else fun _ _ => .stuck
  | _, _ => fun _ _ => .stuck
def eMethK (c : Nat) (f : FT) (ss : List Src) (dd : List D) (a : EM PV) (es kws : EM (List D)) : EM SV := EM.bind a fun p => EM.bind p.now fun d0 => match p, d0 with
  | .v d, .ins c' _ => if c' = c then EM.bind es fun ds => EM.bind kws fun zs e m => (f (d :: pickL ss ds dd zs) m).to e else fun _ _ => .stuck
  | _, _ => fun _ _ => .stuck
/-! isinstance with own classes -/
/-- what isinstance asks of a class: a built-in, or an own one below n -/
def fIsU (lo n : Nat) : List D → Option SV
  | [.ins c _, .cls k] => if (lo ≤ c ∧ c < n) ∧ lo ≤ k ∧ k < n then some (.val (.bl (c == k))) else none
  | [.ins c _, .ty T] => if (lo ≤ c ∧ c < n) ∧ (T = "int" ∨ T = "bool" ∨ T = "str" ∨ T = "tuple" ∨ T = "list" ∨ T = "dict") then some (.val (.bl false)) else none
  | [d, .cls k] => if lo ≤ k ∧ k < n then (tyD d).map fun _ => .val (.bl false) else none
  | ds => fIsi ds
end PI
/-! PICls2: text of values, text * n, isinstance with own classes. -/
namespace PI
open PySem
/-- str(x) of data -/
def fStrA : List D → Option SV
  | [.str cs] => sv (.str cs)
  | ds => fReprA ds
/-- text * n too -/
def fMulS : D → D → Option SV
  | .str cs, .int n => if 2 ≤ n ∧ n ≤ 1000 ∧ cs ≠ [] ∧ cs.length ≤ 1000 then sv (.str (List.replicate n.toNat cs).flatten) else none
  | x, y => fMulX x y
end PI
/-! PIEvC: classes run by simp. -/
namespace PI
open PySem
section
variable (e : Env) (m : MH)
def methK (c : Nat) (f : FT) (dd : List D) (es : EM (List D)) (p : PV) : D → EM SV := fun d0 => match p, d0 with
  | .v d, .ins c' _ => if c' = c then EM.bind es fun ds e m => (f (d :: (ds ++ dd)) m).to e else fun _ _ => .stuck
  | _, _ => fun _ _ => .stuck
@[simp] theorem ev_meth (c : Nat) (f : FT) (dd : List D) (a : EM PV) (es : EM (List D)) : eMeth c f dd a es e m = (a e m).bind fun p => EM.bind p.now (methK c f dd es p) := by
  show (a e m).bind _ = _
  congr 1
@[simp] theorem methK_ins (c : Nat) (f : FT) (dd : List D) (es : EM (List D)) (d : D) (fs : List (Nat × D)) : methK c f dd es (.v d) (.ins c fs) e m = (es e m).bind fun ds e m => (f (d :: (ds ++ dd)) m).to e := by
  simp [methK]
def methKK (c : Nat) (f : FT) (ss : List Src) (dd : List D) (es kws : EM (List D)) (p : PV) : D → EM SV := fun d0 => match p, d0 with
  | .v d, .ins c' _ => if c' = c then EM.bind es fun ds => EM.bind kws fun zs e m => (f (d :: pickL ss ds dd zs) m).to e else fun _ _ => .stuck
  | _, _ => fun _ _ => .stuck
@[simp] theorem ev_methK (c : Nat) (f : FT) (ss : List Src) (dd : List D) (a : EM PV) (es kws : EM (List D)) : eMethK c f ss dd a es kws e m = (a e m).bind fun p => EM.bind p.now (methKK c f ss dd es kws p) := by
  show (a e m).bind _ = _
  congr 1
@[simp] theorem methKK_ins (c : Nat) (f : FT) (ss : List Src) (dd : List D) (es kws : EM (List D)) (d : D) (fs : List (Nat × D)) : methKK c f ss dd es kws (.v d) (.ins c fs) e m = (es e m).bind fun ds => EM.bind kws fun zs e m => (f (d :: pickL ss ds dd zs) m).to e := by
  simp [methKK]
@[simp] theorem fFld_ins (c f : Nat) (fs : List (Nat × D)) : fFld c f (.ins c fs) = (fs.lookup f).map .val := by simp [fFld]
@[simp] theorem lk_cons (a k : Nat) (d : D) (r : List (Nat × D)) : List.lookup a ((k, d) :: r) = if a = k then some d else r.lookup a := by
  by_cases h : a = k
  · subst h; simp [List.lookup]
  · have h2 : (a == k) = false := beq_eq_false_iff_ne.mpr h
    simp [List.lookup, h, h2]
@[simp] theorem lk_nil (a : Nat) : List.lookup a ([] : List (Nat × D)) = none := rfl
@[simp] theorem fXf_exn (f c : Nat) (fs : List (Nat × D)) : fXf f (.exn c fs) = if c < 1000 then (fs.lookup f).map .val else none := rfl
@[simp] theorem fXv_exn (n f c : Nat) (fs : List (Nat × D)) : fXv n f (.exn c fs) = if 1000 ≤ c ∧ c - 1000 < n then (fs.lookup f).map .val else none := rfl
@[simp] theorem ev_fldP (c f : Nat) (v : EM D) (o : EM PV) : sFldP c f v o e m = (v e m).bind fun d => EM.bind o fun p => EM.bind (p.chg fun u => (mFldP c f d u).map fun u' => (.non, u')) fun _ => EM.pure .nx := rfl
@[simp] theorem mFldP_ins (c f : Nat) (d : D) (fs : List (Nat × D)) (h : fs.length < 900) : mFldP c f d (.ins c fs) = some (.ins c (putFD f d fs)) := by simp [mFldP, h]
@[simp] theorem putFD_nil (f : Nat) (v : D) : putFD f v [] = [(f, v)] := rfl
@[simp] theorem putFD_cons (f : Nat) (v : D) (g : Nat) (x : D) (r : List (Nat × D)) : putFD f v ((g, x) :: r) = if g = f then (g, v) :: r else (g, x) :: putFD f v r := rfl
/-! the last shared object -/
@[simp] theorem mh_last (o : MO) : (m ++ [o])[m.length]? = some o := by simp
@[simp] theorem mh_set (o o' : MO) : (m ++ [o]).set m.length o' = m ++ [o'] := by simp
end
@[simp] theorem fStrA_str (cs : List Nat) : fStrA [.str cs] = some (.val (.str cs)) := rfl
@[simp] theorem fStrA_int (i : Int) : fStrA [.int i] = fReprA [.int i] := rfl
@[simp] theorem fStrA_non : fStrA [.non] = fReprA [.non] := rfl
@[simp] theorem fStrA_bl (b : Bool) : fStrA [.bl b] = fReprA [.bl b] := rfl
@[simp] theorem fStrA_dic (ds : List (D × D)) : fStrA [.dic ds] = fReprA [.dic ds] := rfl
@[simp] theorem fStrA_lst (ds : List D) : fStrA [.lst ds] = fReprA [.lst ds] := rfl
@[simp] theorem fStrA_tup (ds : List D) : fStrA [.tup ds] = fReprA [.tup ds] := rfl
@[simp] theorem fMulS_i (i j : Int) : fMulS (.int i) (.int j) = fMul (.int i) (.int j) := rfl
@[simp] theorem fMulS_l (xs : List D) (y : D) : fMulS (.lst xs) y = fMulX (.lst xs) y := rfl
@[simp] theorem fMulS_t (xs : List D) (y : D) : fMulS (.tup xs) y = fMulX (.tup xs) y := rfl
end PI
/-! PICls3: exceptions with fields are raised; handlers without a name. -/
namespace PI
open PySem
end PI
/-! PICls4: int(text). -/
namespace PI
open PySem
/-- the number that figures write -/
def valD (cs : List Nat) : Nat := cs.foldl (fun acc c => acc * 10 + (c - 48)) 0
end PI
/-! PICls5: == by a class's own __eq__, in by it. -/
namespace PI
open PySem
end PI
namespace PI
open PySem
end PI
namespace PI
open PySem
end PI
/-! PICls6: f-strings. -/
namespace PI
open PySem
end PI
/-! PICls7: count, index by an own ==; == of an instance and anything. -/
namespace PI
open PySem
end PI
/-! PICls8: len by an own __len__; an except suite of one's own. -/
namespace PI
open PySem
/-- what an except suite answers; slot i the exception -/
def hG (N i : Nat) (hb : EM Fl) (x : Xn) : Option D := if x.c < 1000 then (match hb ((List.replicate N (none : Option SV)).set i (some (.val (.exn x.c x.fs)))) [] with
  | .ok (.ret (.val d)) _ [] => if d.okR then some d else none
  | _ => none) else none
theorem hG_lt {N i : Nat} {hb : EM Fl} {x : Xn} {d : D} (h : hG N i hb x = some d) : x.c < 1000 := by
  unfold hG at h
  split at h
  · assumption
  · cases h
end PI
/-! PIFun4: a list against the empty list. -/
namespace PI
end PI
/-! PIDicB: dict(x), d.pop, list(d.values()), list(d.items()), min(xs, default=n). -/
namespace PI
open PySem
/-- pairs, keys numbers or texts -/
def pairsK : List D → Option (List (D × D))
  | [] => some []
  | .tup [k, v] :: r => if k.flatKey then (pairsK r).map ((k, v) :: ·) else none
  | .tupw [k, v] :: r => if k.flatKey then (pairsK r).map ((k, v) :: ·) else none
  | _ :: _ => none
def mergeD (acc more : List (D × D)) : List (D × D) := more.foldl (fun a p => dPutN a p.1 p.2) acc
/-- dict(x): of a dict, of pairs -/
def fDict : List D → Option SV
  | [.dic kvs] => if kvs.all (·.1.flatKey) then some (.own (.dic kvs)) else none
  | [.lst ps] => (pairsK ps).bind fun kvs => if okLen kvs.length then some (.own (.dic (mergeD [] kvs))) else none
  | _ => none
end PI
/-! PITryC: try with any number of except clauses, what it computes. -/
namespace PI
open PySem
/-- one clause: which classes it catches, its name's slot, what its suite answers -/
structure Hx where
  sub : Nat → Bool
  i : Option Nat
  h : Xn → Option D
def okO (i : Option Nat) (e : Env) : Bool := match i with
  | none => true
  | some i => decide (i < e.length)
def tryP (x : Xn) (e : Env) (M : MH) : List Hx → Res Fl
  | [] => .err x e M
  | q :: r => if q.sub x.c = true then (if (limF false 0 x.fs && okO q.i e) = true then (match q.h x with
    | some d => .ok (.ret (.val d)) e M
    | none => .stuck) else .stuck) else tryP x e M r
def tryG (n : Nat) (l : List Hx) : Res Fl → Res Fl
  | .err x e M => if x.c < n then tryP x e M l else .stuck
  | r => r
def sTryG (n : Nat) (l : List Hx) (body : EM Fl) : EM Fl := fun e M => tryG n l (body e M)
end PI
/-! PIBor: x, y = a, b with an object of one's own first; calls that only read an object of one's own; dicts compared; max of a dict. -/
namespace PI
open PySem
def okD {α β : Type} (r : Res α) (k : α → Env → MH → Res β) : Res β := match r with
  | .ok d e m => k d e m
  | _ => .stuck
/-- is None as a value -/
def eIsN (a : EM PV) : EM SV := eBool (tIsN a)
end PI
/-! PISrtC: sorted(xs, key=f) with a def of one's own; x or y of any things. -/
namespace PI
open PySem
def keyOf (f : FT) (x : D) : Option D := match f [x] [] with
  | .ok (.val d) [] => if (limL false 0 [x] && d.okR) = true then some d else none
  | _ => none
def keysD (f : FT) : List D → Option (List D)
  | [] => some []
  | x :: xs => match keyOf f x, keysD f xs with
    | some d, some ds => some (d :: ds)
    | _, _ => none
/-- sorted(xs, key=f): f the i-th def -/
def fSortK (i : Nat) (f : FT) : List D → List D → Option SV
  | [.lst xs], [.fn j] => if j = i then (keysD f xs).bind fun ks => (datL ks).bind fun ps => if sortOk ps = true then some (.own (.lst (((xs.zip ks).mergeSort fun a b => leD a.2 b.2).map (·.1)))) else none else none
  | _, _ => none
end PI
/-! PIOrA: x or y of any things. -/
namespace PI
open PySem
end PI
/-! PIBorE: an expression that reads one object of one's own and makes a list. -/
namespace PI
open PySem
end PI
/-! PIBor2: f(a, x, ..): x, a list of one's own, only read; a new list of leaves comes back. -/
namespace PI
open PySem
end PI
/-! PIBorG: an expression that only reads some locals, objects of one's own among them, and makes a list of leaves or a leaf. -/
namespace PI
open PySem
end PI
/-! PIBorM: f(a, b, c, x, ..): x, a list of one's own, only read; f looks at shared objects, too, and leaves them as they are; a leaf or a new list of leaves comes back. -/
namespace PI
open PySem
end PI
/-! PICls9: attributes as targets; dict displays by texts; len, str, repr of shared instances by their class's own. -/
namespace PI
open PySem
/-! {"k": e, ..} -/
/-! an own __len__, __str__, __repr__ of an instance, wherever it stands -/
end PI
/-! PICls10: a def called with the handled exception, its answer used on. -/
namespace PI
open PySem
def eHot (n : Nat) (hw : Xn → Option D) (i : Nat) : EM SV := fun e M => match e[i]? with
  | some (some (.val (.exn c fs))) => if decide (c < n ∧ c < 1000) && limF false 0 fs then (match hw ⟨c, fs⟩ with
    | some d => if d.okR then .ok (.val d) e M else .stuck
    | none => .stuck) else .stuck
  | _ => .stuck
theorem eHot_run {n : Nat} {hw : Xn → Option D} {i : Nat} {e : Env} {M : MH} (h : eHot n hw i e M ≠ .stuck) : ∃ c fs d, e[i]? = some (some (.val (.exn c fs))) ∧ (c < n ∧ c < 1000) ∧ limF false 0 fs = true ∧ hw ⟨c, fs⟩ = some d ∧ d.okR = true ∧ eHot n hw i e M = .ok (.val d) e M := by
  unfold eHot at h ⊢
  split at h
  · rename_i c fs he
    split at h
    · rename_i hf
      obtain ⟨h1, h2⟩ := Bool.and_eq_true_iff.mp hf
      split at h
      · rename_i d hd
        split at h
        · rename_i hr
          refine ⟨c, fs, d, he, of_decide_eq_true h1, h2, hd, hr, ?_⟩

          rw [if_pos hf, if_pos hr]
        · exact absurd rfl h
      · exact absurd rfl h
    · exact absurd rfl h
  · exact absurd rfl h
end PI
/-! PIRepN: repr of things that hold instances of a class with an own __repr__. -/
namespace PI
open PySem
end PI
/-! PIEvG: evaluation of sTryG, sParF, eBor, eIsN. -/
namespace PI
open PySem
section
variable {e : Env} {m : MH} {n : Nat} {l : List Hx}
@[simp] theorem ev_tryG (b : EM Fl) : sTryG n l b e m = tryG n l (b e m) := rfl
@[simp] theorem tryG_ok (f : Fl) : tryG n l (.ok f e m) = .ok f e m := rfl
@[simp] theorem ev_isNV (a : EM PV) : eIsN a e m = (tIsN a e m).bind fun b => EM.pure (.val (.bl b)) := rfl
@[simp] theorem okD_ok' {α β : Type} (a : α) (k : α → Env → MH → Res β) : okD (.ok a e m) k = k a e m := rfl
end
end PI
/-! PIDfIv: `x is not None` as a value; range(a, b, -1). -/
namespace PI
open PySem
def eIsNN (a : EM PV) : EM SV := eBool (tIsNN a)
@[simp] theorem ev_isNNV (a : EM PV) {e : Env} {m : MH} : eIsNN a e m = (tIsNN a e m).bind fun b => EM.pure (.val (.bl b)) := rfl
def downD (a b : Int) : List D := (List.range (a - b).toNat).map fun (i : Nat) => .int (a - i)
def r3K : List D → EM (List D)
  | [.int a, .int b, .int c] => if c = -1 ∧ (-100000 ≤ a ∧ a ≤ 100000) ∧ -100000 ≤ b ∧ b ≤ 100000 then EM.pure (downD a b) else fun _ _ => .stuck
  | _ => fun _ _ => .stuck
@[simp] theorem r3K_i (a b : Int) : r3K [.int a, .int b, .int (-1)] = if (-100000 ≤ a ∧ a ≤ 100000) ∧ -100000 ≤ b ∧ b ≤ 100000 then EM.pure (downD a b) else fun _ _ => .stuck := by
  show (if (-1 : Int) = -1 ∧ _ then _ else _) = _
  congr 1
  simp
def itR3 (es : EM (List PV)) : EM (List D) := EM.bind es fun ps => EM.bind (nowL ps) r3K
@[simp] theorem ev_itR3 (es : EM (List PV)) {e : Env} {m : MH} : itR3 es e m = (es e m).bind fun ps => EM.bind (nowL ps) r3K := rfl
/-- zip of a list and a text -/
def zipOfS : List D → Option (List D)
  | [.lst xs, .str cs] => some (zipG xs (cs.map fun c => .str [c]))
  | _ => none
@[simp] theorem zipOfS_t (xs : List D) (cs : List Nat) : zipOfS [.lst xs, .str cs] = some (zipG xs (cs.map fun c => .str [c])) := rfl
/-- (a, b, ..) = a list -/
def gTupL (ts : List TG) : TG := fun d e => match d with
  | .lst ds => gGo ts ds e
  | _ => none
@[simp] theorem g_tupL (ts : List TG) (ds : List D) (e : Env) : gTupL ts (.lst ds) e = gGo ts ds e := rfl
end PI
/-! PIXv: exceptions as values, made. -/
namespace PI
open PySem
/-- an exception as a value: 1000 behind its class -/
def mkE (c : Nat) (fl : List Nat) : FT := fun ds M => if ds.length = fl.length then .ok (.val (.exn (1000 + c) (fl.zip ds))) M else .stuck
end PI
namespace L04
open PySem PI
noncomputable section
/-! is_whole -/
def m_is_whole : FT := mkF 1 1 (sRet (eAndV (eB fIsi (eCons (pLoc 0) (eCons (pOf (eCon (.ty "int"))) eNil))) (eNotV (eB fIsi (eCons (pLoc 0) (eCons (pOf (eCon (.ty "bool"))) eNil))))))
/-! is_within -/
def m_is_within : FT := mkF 3 3 (sRet (eAndV (eCallD m_is_whole [] (eCons (eUse (eLoc 0)) eNil)) (eBool (t3 fLe fLe (pLoc 1) (pLoc 0) (pLoc 2)))))
/-! is_word -/
def m_is_word : FT := mkF 2 3 (sSeq (sIf (PI.tOr (PI.tNot (tTruN (pOf (eB fIsi (eCons (pLoc 0) (eCons (pOf (eCon (.ty "str"))) eNil)))))) (PI.tNot (t3 fLe fLe (pLoc 1) (pOf (eB fLen (eCons (pLoc 0) eNil))) (pOf (eCon (.int 8)))))) (sRet (eCon (.bl false))) sPass)
    (sRet (eB fAll (eCons (pOf (eLc (gNm 2) (itSeq (eLoc 0)) tYes (eUse (eBool (t2 fIn (pLoc 2) (pOf (eCon (.str [97, 98, 99, 100, 101, 102, 103, 104, 105, 106, 107, 108, 109, 110, 111, 112, 113, 114, 115, 116, 117, 118, 119, 120, 121, 122])))))) [2])) eNil))))
/-! is_size -/
def m_is_size : FT := mkF 1 1 (sRet (eAndV (eCallD m_is_whole [] (eCons (eUse (eLoc 0)) eNil)) (eBool (t2 fIn (pLoc 0) (pOf (eCon (.tup [(.int 37), (.int 75), (.int 150)])))))))
/-! is_year -/
def m_is_year : FT := mkF 1 1 (sRet (eCallD m_is_within [] (eCons (eUse (eLoc 0)) (eCons (eUse (eCon (.int 1900))) (eCons (eUse (eCon (.int 2100))) eNil)))))
/-! Bottle___init__ -/
def m_Bottle___init__ : FT := mkF 4 4 (sSeq (sIf (PI.tNot (tTruN (pOf (eCallD m_is_word [(.int 1)] (eCons (eUse (eLoc 1)) eNil))))) (sRaise 1) sPass)
    (sSeq (sIf (PI.tNot (tTruN (pOf (eCallD m_is_year [] (eCons (eUse (eLoc 2)) eNil))))) (sRaise 2) sPass)
    (sSeq (sIf (PI.tNot (tTruN (pOf (eCallD m_is_size [] (eCons (eUse (eLoc 3)) eNil))))) (sRaise 3) sPass)
    (sSeq (sFldP 30 10 (eUse (eLoc 1)) (pLoc 0))
    (sSeq (sFldP 30 11 (eUse (eLoc 2)) (pLoc 0))
    (sFldP 30 12 (eUse (eLoc 3)) (pLoc 0)))))))
/-! is_bottle -/
def m_is_bottle : FT := mkF 1 1 (sRet (eB (fIsU 30 31) (eCons (pLoc 0) (eCons (pOf (eCon (.cls 30))) eNil))))
/-! age_of -/
def m_age_of : FT := mkF 1 1 (sRet (eTup (eCons (eUse (e1 (fFld 30 11) (pLoc 0))) (eCons (eUse (e1 (fFld 30 10) (pLoc 0))) (eCons (eUse (e1 (fFld 30 12) (pLoc 0))) eNil)))))
/-! are_bottles -/
def m_are_bottles : FT := mkF 1 2 (sRet (eAndV (eB fIsi (eCons (pLoc 0) (eCons (pOf (eCon (.ty "list"))) eNil))) (eB fAll (eCons (pOf (eLc (gNm 1) (itSeq (eLoc 0)) tYes (eUse (eCallD m_is_bottle [] (eCons (eUse (eLoc 1)) eNil))) [1])) eNil))))
/-! check_bottles -/
def m_check_bottles : FT := mkF 1 1 (sIf (PI.tNot (tTruN (pOf (eCallD m_are_bottles [] (eCons (eUse (eLoc 0)) eNil))))) (sRaise 0) sPass)
/-! by_age -/
def m_by_age : FT := mkF 1 1 (sSeq (sExp (eCallD m_check_bottles [] (eCons (eUse (eLoc 0)) eNil)))
    (sRet (eBK (fSortK 13 m_age_of) (eCons (pLoc 0) eNil) (eCons (eUse (eCon (.fn 13))) eNil))))
/-! _law_cell_at -/
def m__law_cell_at : FT := mkF 2 2 (sSeq (sIf (t2 fLt (pLoc 1) (pOf (eB fLen (eCons (pLoc 0) eNil)))) (sRet (e2 fIx (pLoc 0) (pLoc 1))) sPass)
    (sRet (eCon (.int 0))))
/-! _law_pot -/
def l__law_pot_1 : EM Fl := (sSeq (sSetF 3 (e2 fMod (pOf (e2 fMul (pOf (e2 fAdd (pOf (e2 fAdd (pOf (e2 fMod (pLoc 0) (pOf (eCon (.int 2147483629))))) (pOf (e2 fMul (pOf (eCon (.int 7919))) (pLoc 2))))) (pOf (eCon (.int 1))))) (pOf (eCon (.int 48271))))) (pOf (eCon (.int 2147483647)))))
    (sSeq (sSetF 3 (e2 fMod (pOf (e2 fAdd (pOf (e2 fAdd (pOf (e2 fMul (pLoc 3) (pLoc 3))) (pOf (e2 fMul (pOf (eCon (.int 69621))) (pLoc 2))))) (pOf (eCon (.int 7))))) (pOf (eCon (.int 2147483587)))))
    (sSetF 1 (e2 fAdd (pOf (e2 fMul (pLoc 1) (pOf (eCon (.int 2147483587))))) (pLoc 3)))))
def m__law_pot : FT := mkF 1 4 (sSeq (sIf (t2 fGe (pLoc 0) (pOf (e2 fPow (pOf (eCon (.int 10))) (pOf (eCon (.int 18)))))) (sRet (eLst (eCons (eUse (e2 fSub (pLoc 0) (pOf (e2 fPow (pOf (eCon (.int 10))) (pOf (eCon (.int 18))))))) eNil))) sPass)
    (sSeq (sSet 1 (eCon (.int 0)))
    (sSeq (sFor (gNm 2) (itR1 (eCons (pOf (eCon (.int 64))) eNil)) l__law_pot_1)
    (sRet (eLst (eCons (eUse (eLoc 1)) eNil))))))
/-! _law_take -/
def m__law_take : FT := mkF 2 3 (sSeq (sSetF 2 (e2 fMod (pOf (e2 fIx (pLoc 0) (pOf (eCon (.int 0))))) (pLoc 1)))
    (sSeq (sPut pLst (eUse (e2 fDiv (pOf (e2 fIx (pLoc 0) (pOf (eCon (.int 0))))) (pLoc 1))) (pLoc 0) (eUse (eCon (.int 0))))
    (sRet (eMov 2))))
/-! _law_word -/
def m__law_word : FT := mkF 1 3 (sSeq (sSetF 1 (eLst (eCons (eUse (eB (fIsX2 mroT nX ksT) (eCons (pLoc 0) (eCons (pOf (eCon (.cls 1))) eNil)))) (eCons (eUse (eB (fIsX2 mroT nX ksT) (eCons (pLoc 0) (eCons (pOf (eCon (.cls 2))) eNil)))) (eCons (eUse (eB (fIsX2 mroT nX ksT) (eCons (pLoc 0) (eCons (pOf (eCon (.cls 3))) eNil)))) (eCons (eUse (eB (fIsX2 mroT nX ksT) (eCons (pLoc 0) (eCons (pOf (eCon (.cls 4))) eNil)))) eNil))))))
    (sSeq (sSetF 1 (e2 fAdd (pLoc 1) (pOf (eLst (eCons (eUse (eB (fIsX2 mroT nX ksT) (eCons (pLoc 0) (eCons (pOf (eCon (.cls 0))) eNil)))) (eCons (eUse (eB (fIsX2 mroT nX ksT) (eCons (pLoc 0) (eCons (pOf (eCon (.cls 5))) eNil)))) (eCons (eUse (eB (fIsX2 mroT nX ksT) (eCons (pLoc 0) (eCons (pOf (eCon (.cls 6))) eNil)))) (eCons (eUse (eB (fIsX2 mroT nX ksT) (eCons (pLoc 0) (eCons (pOf (eCon (.cls 7))) eNil)))) eNil))))))))
    (sSeq (sSetF 1 (e2 fAdd (pLoc 1) (pOf (eLst (eCons (eUse (eB (fIsX2 mroT nX ksT) (eCons (pLoc 0) (eCons (pOf (eCon (.cls 8))) eNil)))) (eCons (eUse (eB (fIsX2 mroT nX ksT) (eCons (pLoc 0) (eCons (pOf (eCon (.cls 9))) eNil)))) (eCons (eUse (eB (fIsX2 mroT nX ksT) (eCons (pLoc 0) (eCons (pOf (eCon (.cls 15))) eNil)))) (eCons (eUse (eB (fIsX2 mroT nX ksT) (eCons (pLoc 0) (eCons (pOf (eCon (.cls 16))) eNil)))) eNil))))))))
    (sSeq (sSetF 1 (e2 fAdd (pLoc 1) (pOf (eLst (eCons (eUse (eB (fIsX2 mroT nX ksT) (eCons (pLoc 0) (eCons (pOf (eCon (.cls 17))) eNil)))) (eCons (eUse (eB (fIsX2 mroT nX ksT) (eCons (pLoc 0) (eCons (pOf (eCon (.cls 18))) eNil)))) (eCons (eUse (eB (fIsX2 mroT nX ksT) (eCons (pLoc 0) (eCons (pOf (eCon (.cls 19))) eNil)))) (eCons (eUse (eB (fIsX2 mroT nX ksT) (eCons (pLoc 0) (eCons (pOf (eCon (.cls 20))) eNil)))) eNil))))))))
    (sSeq (sSetF 1 (e2 fAdd (pLoc 1) (pOf (eLst (eCons (eUse (eB (fIsX2 mroT nX ksT) (eCons (pLoc 0) (eCons (pOf (eCon (.cls 21))) eNil)))) (eCons (eUse (eB (fIsX2 mroT nX ksT) (eCons (pLoc 0) (eCons (pOf (eCon (.cls 22))) eNil)))) (eCons (eUse (eB (fIsX2 mroT nX ksT) (eCons (pLoc 0) (eCons (pOf (eCon (.cls 23))) eNil)))) (eCons (eUse (eB (fIsX2 mroT nX ksT) (eCons (pLoc 0) (eCons (pOf (eCon (.cls 24))) eNil)))) eNil))))))))
    (sSeq (sSetF 1 (e2 fAdd (pLoc 1) (pOf (eLst (eCons (eUse (eB (fIsX2 mroT nX ksT) (eCons (pLoc 0) (eCons (pOf (eCon (.cls 25))) eNil)))) (eCons (eUse (eB (fIsX2 mroT nX ksT) (eCons (pLoc 0) (eCons (pOf (eCon (.cls 26))) eNil)))) (eCons (eUse (eB (fIsX2 mroT nX ksT) (eCons (pLoc 0) (eCons (pOf (eCon (.cls 27))) eNil)))) (eCons (eUse (eB (fIsX2 mroT nX ksT) (eCons (pLoc 0) (eCons (pOf (eCon (.cls 28))) eNil)))) eNil))))))))
    (sSeq (sSetF 1 (e2 fAdd (pLoc 1) (pOf (eLst (eCons (eUse (eB (fIsX2 mroT nX ksT) (eCons (pLoc 0) (eCons (pOf (eCon (.cls 12))) eNil)))) (eCons (eUse (eB (fIsX2 mroT nX ksT) (eCons (pLoc 0) (eCons (pOf (eCon (.cls 13))) eNil)))) (eCons (eUse (eB (fIsX2 mroT nX ksT) (eCons (pLoc 0) (eCons (pOf (eCon (.cls 14))) eNil)))) eNil)))))))
    (sSeq (sIf (PI.tOr (t2 fNe (pOf (eM2 fCountL fCountT (pLoc 1) (eCons (pOf (eCon (.bl true))) eNil))) (pOf (eCon (.int 1)))) (PI.tOr (PI.tNot (tTruN (pOf (eB (fIsX2 mroT nX ksT) (eCons (pLoc 0) (eCons (pOf (eCon (.ty "ValueError"))) eNil)))))) (tTruN (pOf (eB (fIsX2 mroT nX ksT) (eCons (pLoc 0) (eCons (pOf (eTup (eCons (eUse (eCon (.cls 32))) (eCons (eUse (eCon (.ty "LookupError"))) eNil)))) eNil))))))) (sRet (eCon (.str [111, 116, 104, 101, 114]))) sPass)
    (sSeq (sSet 2 (eCon (.str [109, 97, 107, 101, 114, 32, 121, 101, 97, 114, 32, 115, 105, 122, 101, 32, 98, 111, 116, 116, 108, 101, 32, 98, 111, 116, 116, 108, 101, 115, 32, 114, 111, 111, 109, 115, 32, 104, 111, 108, 100, 32, 109, 111, 110, 116, 104, 32, 119, 104, 111, 32, 115, 101, 116, 32, 100, 101, 101, 100, 32, 115, 112, 97, 110, 115, 32, 115, 112, 97, 110, 32, 114, 97, 116, 101, 32, 119, 105, 115, 104, 101, 115, 32, 110, 111, 116, 101, 115, 32, 111, 114, 100, 101, 114, 32, 108, 105, 115, 116])))
    (sSeq (sSetF 2 (eM .str fSplit (pOf (e2 fAdd (pLoc 2) (pOf (eCon (.str [32, 108, 111, 115, 116, 32, 104, 105, 110, 116, 115, 32, 119, 97, 121, 32, 108, 105, 110, 101, 32, 110, 117, 109, 98, 101, 114, 32, 112, 108, 97, 99, 101, 32, 109, 97, 110, 121, 32, 99, 114, 111, 119, 100, 101, 100, 32, 116, 101, 120, 116]))))) (eCons (pOf (eCon (.str [32]))) eNil)))
    (sRet (e2 fIx (pLoc 2) (pOf (eM2 fIndexL fIndexT (pLoc 1) (eCons (pOf (eCon (.bl true))) eNil)))))))))))))))
/-! _law_plain_ones -/
def m__law_plain_ones : FT := mkF 0 1 (sSeq (sSetF 0 (eLst (eCons (eUse (eCallD (mkE 1 []) [] eNil)) (eCons (eUse (eCallD (mkE 2 []) [] eNil)) (eCons (eUse (eCallD (mkE 3 []) [] eNil)) (eCons (eUse (eCallD (mkE 4 []) [] eNil)) (eCons (eUse (eCallD (mkE 0 []) [] eNil)) (eCons (eUse (eCallD (mkE 5 []) [] eNil)) (eCons (eUse (eCallD (mkE 6 []) [] eNil)) (eCons (eUse (eCallD (mkE 7 []) [] eNil)) (eCons (eUse (eCallD (mkE 8 []) [] eNil)) (eCons (eUse (eCallD (mkE 9 []) [] eNil)) eNil))))))))))))
    (sSeq (sSetF 0 (e2 fAdd (pLoc 0) (pOf (eLst (eCons (eUse (eCallD (mkE 15 []) [] eNil)) (eCons (eUse (eCallD (mkE 16 []) [] eNil)) (eCons (eUse (eCallD (mkE 17 []) [] eNil)) (eCons (eUse (eCallD (mkE 18 []) [] eNil)) (eCons (eUse (eCallD (mkE 19 []) [] eNil)) (eCons (eUse (eCallD (mkE 20 []) [] eNil)) (eCons (eUse (eCallD (mkE 21 []) [] eNil)) (eCons (eUse (eCallD (mkE 22 []) [] eNil)) (eCons (eUse (eCallD (mkE 23 []) [] eNil)) eNil)))))))))))))
    (sRet (e2 fAdd (pLoc 0) (pOf (eLst (eCons (eUse (eCallD (mkE 24 []) [] eNil)) (eCons (eUse (eCallD (mkE 25 []) [] eNil)) (eCons (eUse (eCallD (mkE 26 []) [] eNil)) (eCons (eUse (eCallD (mkE 27 []) [] eNil)) (eCons (eUse (eCallD (mkE 28 []) [] eNil)) eNil)))))))))))
/-! _law_here_word -/
def m__law_here_word : FT := mkF 1 2 (sSeq (sSetF 1 (eLst (eCons (eUse (eB (fIsX2 mroT nX ksT) (eCons (pLoc 0) (eCons (pOf (eCon (.cls 10))) eNil)))) (eCons (eUse (eB (fIsX2 mroT nX ksT) (eCons (pLoc 0) (eCons (pOf (eCon (.cls 11))) eNil)))) (eCons (eUse (eB (fIsX2 mroT nX ksT) (eCons (pLoc 0) (eCons (pOf (eCon (.cls 29))) eNil)))) (eCons (eUse (eB (fIsX2 mroT nX ksT) (eCons (pLoc 0) (eCons (pOf (eCon (.cls 31))) eNil)))) eNil))))))
    (sSeq (sIf (PI.tOr (t2 fNe (pOf (eM2 fCountL fCountT (pLoc 1) (eCons (pOf (eCon (.bl true))) eNil))) (pOf (eCon (.int 1)))) (PI.tOr (PI.tNot (tTruN (pOf (eB (fIsX2 mroT nX ksT) (eCons (pLoc 0) (eCons (pOf (eCon (.cls 32))) eNil)))))) (PI.tNot (tTruN (pOf (eB (fIsX2 mroT nX ksT) (eCons (pLoc 0) (eCons (pOf (eCon (.ty "LookupError"))) eNil)))))))) (sRet (eCon (.str [111, 116, 104, 101, 114]))) sPass)
    (sRet (eIte (tTruN (pOf (eB (fIsX2 mroT nX ksT) (eCons (pLoc 0) (eCons (pOf (eCon (.ty "ValueError"))) eNil))))) (eCon (.str [111, 116, 104, 101, 114])) (e2 fIx (pOf (eLst (eCons (eUse (eCon (.str [102, 117, 108, 108]))) (eCons (eUse (eCon (.str [103, 111, 110, 101]))) (eCons (eUse (eCon (.str [107, 101, 112, 116]))) (eCons (eUse (eCon (.str [111, 116, 104, 101, 114]))) eNil)))))) (pOf (eM2 fIndexL fIndexT (pLoc 1) (eCons (pOf (eCon (.bl true))) eNil))))))))
/-! _law_here_right -/
def m__law_here_right : FT := mkF 3 9 (sSeq (sAsg (gTup [(gNm 3), (gNm 4), (gNm 5)]) (eTup (eCons (eUse (eTup (eCons (eUse (eCon (.str [100, 114, 117, 110, 107]))) (eCons (eUse (e2 fMod (pLoc 1) (pOf (eCon (.int 1000))))) (eCons (eUse (eCon (.str [97, 121]))) eNil))))) (eCons (eUse (eTup (eCons (eUse (eCon (.str [98, 114, 111, 107, 101, 110]))) (eCons (eUse (eLoc 2)) eNil)))) (eCons (eUse (eTup (eCons (eUse (e2 fAdd (pLoc 0) (pOf (eCon (.int 1))))) (eCons (eUse (e2 fAdd (pOf (e2 fAdd (pLoc 0) (pOf (eCon (.int 2))))) (pLoc 2))) eNil)))) eNil)))))
    (sSeq (sSetF 6 (eLst (eCons (eUse (eCallD (mkE 10 [5, 6]) [] (eCons (eUse (eLoc 0)) (eCons (eUse (eLoc 1)) eNil)))) (eCons (eUse (eCallK (mkE 10 [5, 6]) [.k 1, .k 0] [] eNil (eCons (eUse (eLoc 1)) (eCons (eUse (eLoc 0)) eNil)))) (eCons (eUse (eCallD (mkE 11 [7, 8]) [] (eCons (eUse (eLoc 0)) (eCons (eUse (eLoc 3)) eNil)))) (eCons (eUse (eCallK (mkE 11 [7, 8]) [.k 1, .k 0] [] eNil (eCons (eUse (eLoc 4)) (eCons (eUse (eLoc 0)) eNil)))) eNil))))))
    (sSeq (sSetF 6 (e2 fAdd (pLoc 6) (pOf (eLst (eCons (eUse (eCallK (mkE 29 [7, 9]) [.p 0, .k 0] [] (eCons (eUse (eLoc 0)) eNil) (eCons (eUse (eLoc 5)) eNil))) (eCons (eUse (eCallK (mkE 29 [7, 9]) [.k 0, .k 1] [] eNil (eCons (eUse (eLoc 1)) (eCons (eUse (eTup eNil)) eNil)))) eNil))))))
    (sSeq (sIf (t2 fNe (pOf (eLc (gNm 7) (itSeq (eLoc 6)) tYes (eUse (eCallD m__law_here_word [] (eCons (eUse (eLoc 7)) eNil))) [7])) (pOf (eLst (eCons (eUse (eCon (.str [102, 117, 108, 108]))) (eCons (eUse (eCon (.str [102, 117, 108, 108]))) (eCons (eUse (eCon (.str [103, 111, 110, 101]))) (eCons (eUse (eCon (.str [103, 111, 110, 101]))) (eCons (eUse (eCon (.str [107, 101, 112, 116]))) (eCons (eUse (eCon (.str [107, 101, 112, 116]))) eNil))))))))) (sRet (eCon (.bl false))) sPass)
    (sSeq (sSetF 8 (eLst (eCons (eUse (eTup (eCons (eUse (e1 (fXv nX 5) (pOf (e2 fIx (pLoc 6) (pOf (eCon (.int 0))))))) (eCons (eUse (e1 (fXv nX 6) (pOf (e2 fIx (pLoc 6) (pOf (eCon (.int 0))))))) eNil)))) (eCons (eUse (eTup (eCons (eUse (e1 (fXv nX 5) (pOf (e2 fIx (pLoc 6) (pOf (eCon (.int 1))))))) (eCons (eUse (e1 (fXv nX 6) (pOf (e2 fIx (pLoc 6) (pOf (eCon (.int 1))))))) eNil)))) (eCons (eUse (eTup (eCons (eUse (e1 (fXv nX 7) (pOf (e2 fIx (pLoc 6) (pOf (eCon (.int 2))))))) (eCons (eUse (e1 (fXv nX 8) (pOf (e2 fIx (pLoc 6) (pOf (eCon (.int 2))))))) eNil)))) eNil)))))
    (sSeq (sSetF 8 (e2 fAdd (pLoc 8) (pOf (eLst (eCons (eUse (eTup (eCons (eUse (e1 (fXv nX 7) (pOf (e2 fIx (pLoc 6) (pOf (eCon (.int 3))))))) (eCons (eUse (e1 (fXv nX 8) (pOf (e2 fIx (pLoc 6) (pOf (eCon (.int 3))))))) eNil)))) (eCons (eUse (eTup (eCons (eUse (e1 (fXv nX 7) (pOf (e2 fIx (pLoc 6) (pOf (eCon (.int 4))))))) (eCons (eUse (e1 (fXv nX 9) (pOf (e2 fIx (pLoc 6) (pOf (eCon (.int 4))))))) eNil)))) (eCons (eUse (eTup (eCons (eUse (e1 (fXv nX 7) (pOf (e2 fIx (pLoc 6) (pOf (eCon (.int 5))))))) (eCons (eUse (e1 (fXv nX 9) (pOf (e2 fIx (pLoc 6) (pOf (eCon (.int 5))))))) eNil)))) eNil)))))))
    (sRet (eBool (t2 fEq (pLoc 8) (pOf (eLst (eCons (eUse (eTup (eCons (eUse (eLoc 0)) (eCons (eUse (eLoc 1)) eNil)))) (eCons (eUse (eTup (eCons (eUse (eLoc 0)) (eCons (eUse (eLoc 1)) eNil)))) (eCons (eUse (eTup (eCons (eUse (eLoc 0)) (eCons (eUse (eLoc 3)) eNil)))) (eCons (eUse (eTup (eCons (eUse (eLoc 0)) (eCons (eUse (eLoc 4)) eNil)))) (eCons (eUse (eTup (eCons (eUse (eLoc 0)) (eCons (eUse (eLoc 5)) eNil)))) (eCons (eUse (eTup (eCons (eUse (eLoc 1)) (eCons (eUse (eTup eNil)) eNil)))) eNil)))))))))))))))))
/-! _law_fields_right -/
def m__law_fields_right : FT := mkF 3 7 (sSeq (sSet 3 (eLst (eCons (eUse (eCallD (mkE 12 [0, 1]) [] (eCons (eUse (eLoc 0)) (eCons (eUse (eLoc 1)) eNil)))) (eCons (eUse (eCallK (mkE 12 [0, 1]) [.k 1, .k 0] [] eNil (eCons (eUse (eLoc 0)) (eCons (eUse (eLoc 1)) eNil)))) (eCons (eUse (eCallD (mkE 13 [2, 3, 0]) [] (eCons (eUse (eLoc 0)) (eCons (eUse (eLoc 1)) (eCons (eUse (eLoc 2)) eNil))))) eNil)))))
    (sSeq (sExp (eMut .list mAppend (pLoc 3) (eCons (eUse (eCallK (mkE 13 [2, 3, 0]) [.k 2, .k 1, .k 0] [] eNil (eCons (eUse (eLoc 0)) (eCons (eUse (eLoc 1)) (eCons (eUse (eCon (.int 3))) eNil))))) eNil)))
    (sSeq (sIf (t2 fNe (pOf (eLc (gNm 4) (itSeq (eCut (pLoc 3) eNoPart (ePart (pOf (eCon (.int 2)))))) tYes (eUse (eTup (eCons (eUse (e1 (fXv nX 0) (pLoc 4))) (eCons (eUse (e1 (fXv nX 1) (pLoc 4))) eNil)))) [4])) (pOf (eLst (eCons (eUse (eTup (eCons (eUse (eLoc 0)) (eCons (eUse (eLoc 1)) eNil)))) (eCons (eUse (eTup (eCons (eUse (eLoc 1)) (eCons (eUse (eLoc 0)) eNil)))) eNil))))) (sRet (eCon (.bl false))) sPass)
    (sSeq (sIf (t2 fNe (pOf (eLc (gNm 4) (itSeq (eCut (pLoc 3) (ePart (pOf (eCon (.int 2)))) eNoPart)) tYes (eUse (eTup (eCons (eUse (e1 (fXv nX 2) (pLoc 4))) (eCons (eUse (e1 (fXv nX 3) (pLoc 4))) (eCons (eUse (e1 (fXv nX 0) (pLoc 4))) eNil))))) [4])) (pOf (eLst (eCons (eUse (eTup (eCons (eUse (eLoc 0)) (eCons (eUse (eLoc 1)) (eCons (eUse (eLoc 2)) eNil))))) (eCons (eUse (eTup (eCons (eUse (eCon (.int 3))) (eCons (eUse (eLoc 1)) (eCons (eUse (eLoc 0)) eNil))))) eNil))))) (sRet (eCon (.bl false))) sPass)
    (sSeq (sSetF 5 (eLst (eCons (eUse (eCallD (mkE 14 [4]) [(.int 0)] eNil)) (eCons (eUse (eCallD (mkE 14 [4]) [] (eCons (eUse (eLoc 0)) eNil))) (eCons (eUse (eCallK (mkE 14 [4]) [.k 0] [(.int 0)] eNil (eCons (eUse (eLoc 1)) eNil))) eNil)))))
    (sSeq (sSetF 6 (eLc (gNm 4) (itSeq (e2 fAdd (pLoc 3) (pLoc 5))) tYes (eUse (eCallD m__law_word [] (eCons (eUse (eLoc 4)) eNil))) [4]))
    (sRet (eAndV (eBool (t2 fEq (pOf (eLc (gNm 4) (itSeq (eLoc 5)) tYes (eUse (e1 (fXv nX 4) (pLoc 4))) [4])) (pOf (eLst (eCons (eUse (eCon (.int 0))) (eCons (eUse (eLoc 0)) (eCons (eUse (eLoc 1)) eNil))))))) (eBool (t2 fEq (pLoc 6) (pOf (e2 fAdd (pOf (e2 fAdd (pOf (e2 fMulS (pOf (eLst (eCons (eUse (eCon (.str [109, 97, 110, 121]))) eNil))) (pOf (eCon (.int 2))))) (pOf (e2 fMulS (pOf (eLst (eCons (eUse (eCon (.str [99, 114, 111, 119, 100, 101, 100]))) eNil))) (pOf (eCon (.int 2))))))) (pOf (e2 fMulS (pOf (eLst (eCons (eUse (eCon (.str [116, 101, 120, 116]))) eNil))) (pOf (eCon (.int 3)))))))))))))))))
/-! _law_raised -/
def m__law_raised : FT := mkF 1 2 (sSeq (sTryG nX [⟨sub_HereError, none, hG 2 2 (sRet (eCon (.str [104, 101, 114, 101])))⟩, ⟨sub_CellarError, some 1, hG 2 1 (sRet (eHot nX (hotOf m__law_word) 1))⟩] (sExp (eCallD m_by_age [] (eCons (eUse (eLoc 0)) eNil))))
    (sRet (eCon (.str []))))
/-! law -/
def l_law_1 : EM Fl := (sSeq (sSetF 3 (eShare (eCallD m__law_pot [] (eCons (eUse (eCallD m__law_cell_at [] (eCons (eUse (eLoc 0)) (eCons (eUse (eLoc 2)) eNil)))) eNil))))
    (sSeq (sAsg (gTup [(gNm 4), (gNm 5), (gNm 6)]) (eTup (eCons (eUse (eCallD m__law_take [] (eCons (eUse (eLoc 3)) (eCons (eUse (eCon (.int 99))) eNil)))) (eCons (eUse (eCallD m__law_take [] (eCons (eUse (eLoc 3)) (eCons (eUse (e2 fPow (pOf (eCon (.int 10))) (pOf (eCon (.int 20))))) eNil)))) (eCons (eUse (eCallD m__law_take [] (eCons (eUse (eLoc 3)) (eCons (eUse (eCon (.int 9))) eNil)))) eNil)))))
    (sSeq (sSetF 7 (eCallD m__law_plain_ones [] eNil))
    (sSeq (sIf (PI.tOr (t2 fNe (pOf (eLc (gNm 8) (itSeq (eLoc 7)) tYes (eUse (eCallD m__law_word [] (eCons (eUse (eLoc 8)) eNil))) [8])) (pLoc 1)) (PI.tNot (tTruN (pOf (eCallD m__law_here_right [] (eCons (eUse (eLoc 4)) (eCons (eUse (eLoc 5)) (eCons (eUse (eLoc 6)) eNil)))))))) (sRet (eCon (.bl false))) sPass)
    (sSeq (sIf (t2 fNe (pOf (eLc (gNm 8) (itSeq (eLoc 7)) (PI.tOr (tTruN (pOf (eB (fIsX2 mroT nX ksT) (eCons (pLoc 8) (eCons (pOf (eCon (.ty "LookupError"))) eNil))))) (PI.tNot (tTruN (pOf (eB (fIsX2 mroT nX ksT) (eCons (pLoc 8) (eCons (pOf (eCon (.cls 31))) eNil))))))) (eUse (eCon (.int 1))) [8])) (pOf (eLst eNil))) (sRet (eCon (.bl false))) sPass)
    (sIf (PI.tOr (PI.tNot (tTruN (pOf (eCallD m__law_fields_right [] (eCons (eUse (eLoc 4)) (eCons (eUse (eLoc 5)) (eCons (eUse (eLoc 6)) eNil))))))) (t2 fNe (pOf (eCallD m__law_raised [] (eCons (eUse (eTup (eCons (eUse (eLoc 4)) eNil))) eNil))) (pOf (eCon (.str [98, 111, 116, 116, 108, 101, 115]))))) (sRet (eCon (.bl false))) sPass))))))
def m_law : FT := mkF 1 9 (sSeq (sSet 1 (eCon (.str [109, 97, 107, 101, 114, 32, 121, 101, 97, 114, 32, 115, 105, 122, 101, 32, 98, 111, 116, 116, 108, 101, 32, 98, 111, 116, 116, 108, 101, 115, 32, 114, 111, 111, 109, 115, 32, 104, 111, 108, 100, 32, 109, 111, 110, 116, 104, 32, 119, 104, 111, 32, 115, 101, 116, 32, 100, 101, 101, 100, 32, 115, 112, 97, 110, 115, 32, 115, 112, 97, 110, 32, 114, 97, 116, 101, 32, 119, 105, 115, 104, 101, 115, 32, 110, 111, 116, 101, 115, 32, 111, 114, 100, 101, 114, 32, 108, 105, 115, 116])))
    (sSeq (sSetF 1 (eM .str fSplit (pOf (e2 fAdd (pLoc 1) (pOf (eCon (.str [32, 108, 111, 115, 116, 32, 104, 105, 110, 116, 115, 32, 119, 97, 121, 32, 108, 105, 110, 101, 32, 110, 117, 109, 98, 101, 114, 32, 112, 108, 97, 99, 101]))))) (eCons (pOf (eCon (.str [32]))) eNil)))
    (sSeq (sFor (gNm 2) (itR1 (eCons (pOf (eB fMax (eCons (pOf (eCon (.int 1))) (eCons (pOf (eB fMinD (eCons (pOf (eB fLen (eCons (pLoc 0) eNil))) (eCons (pOf (eCon (.int 3))) eNil)))) eNil)))) eNil)) l_law_1)
    (sRet (eCon (.bl true))))))
end
end L04
/-! PIRel: how my values stand in the hand layer's abstract heap; the readings of my combinators. -/
namespace PI
open PySem PySem.Spec PyProof.Rows L2
abbrev St := L2.St
/-- nothing is being shown in the moment (or, where pg is false, it is known what is) -/
abbrev GdOk (p : Bool) (A : Around) : Prop := (p = true → A.guards = some []) ∧ ∃ g, A.guards = some g
class PgT (G : Ga) : Prop where
  h : G.pg = true
/-- foreign objects (never touched), the shared changeable objects' addresses. A frozen object is one that the layer has locked -/
structure Gs where
  Z : Addr → Prop
  μ : List Addr
section
variable (G : Ga) (g : Gs) (H : Hp)
/-- a frozen list -/
def LF (K : PySem.W.Frag) (a : Addr) (vs : List V) : Prop := (∃ o, H a = some (.frz o (.lst vs))) ∨
  ∃ (its : List Value) (n : Nat), K.lookup a = some { cls := .type "list", data := .seq its.toArray n } ∧ its.length ≤ sizeLine ∧ Vals vs its
/-- a tuple of which all is known -/
def SqS (K : PySem.W.Frag) (a : Addr) (vs : List V) : Prop := (∃ o, H a = some (.frz o (.tup vs)) ∧ o.dict = none) ∨
  ∃ (o : Obj) (its : Array Value) (n : Nat), K.lookup a = some o ∧ o.cls = .type "tuple" ∧ o.dict = none ∧ o.data = .seq its n ∧ its.size ≤ sizeLine ∧ Vals vs its.toList
mutual
def Is : D → V → Prop
  | .non, v => v = .non
  | .bl b, v => v = .bl b
  | .int i, v => v = .int i
  | .str cs, v => v = .str ⟨cs.toArray⟩ ∧ cs.length ≤ sizeLine
  | .tup ds, v => ∃ a vs, v = .ref a ∧ SqS H G.K a vs ∧ IsL ds vs
  | .tupw ds, v => ∃ a vs, v = .ref a ∧ H a = some (.tup vs) ∧ IsL ds vs
  | .lst ds, v => ∃ a vs, v = .ref a ∧ LF H G.K a vs ∧ IsL ds vs
  | .dic kvs, v => ∃ a o, v = .ref a ∧ ((∃ ks, H a = some (.frz o (.dK ks)) ∧ IsK kvs ks) ∨ ∃ ks, H a = some (.frz o (.dT ks)) ∧ kvs ≠ [] ∧ IsT kvs ks)
  | .ins c fs, v => ∃ a dx vfs o, v = .ref a ∧ H a = some (.frz o (.ins (G.ca c) dx vfs)) ∧ IsFl fs vfs
  | .exn c fs, v => ∃ a dd, v = .ref a ∧ ((c < 1000 ∧ G.xs a c dd) ∨ (1000 ≤ c ∧ ∃ o u, H a = some (.frz o u) ∧ o.cls = .ref (G.ca (c - 1000)) ∧ o.dict = dd ∧ ∃ vs, o.data = .fields vs)) ∧ ((dd = none ∧ fs = []) ∨ ∃ d vfs, dd = some d ∧ H d = some (.xd vfs) ∧ IsFx fs vfs)
  | .obj n, v => ∃ a, v = .ref a ∧ g.μ[n]? = some a
  | .fn f, v => v = .ref (G.fa f)
  | .cls c, v => v = .ref (G.ca c)
  | .ty n, v => v = .ty n
def IsL : List D → List V → Prop
  | [], [] => True
  | d :: ds, v :: vs => Is d v ∧ IsL ds vs
  | _, _ => False
def IsK : List (D × D) → List (Key × V) → Prop
  | [], [] => True
  | (k, d) :: r, (q, v) :: s => Is k (kV q) ∧ Is d v ∧ IsK r s
  | _, _ => False
def IsT : List (D × D) → List (List Key × V) → Prop
  | [], [] => True
  | (.tup ks, d) :: r, (q, v) :: s => IsL ks (q.map kV) ∧ Is d v ∧ IsT r s
  | _, _ => False
def IsFl : List (Nat × D) → List (Str × V) → Prop
  | [], [] => True
  | (f, d) :: r, (q, v) :: s => q = G.fld f ∧ Is d v ∧ IsFl r s
  | _, _ => False
/-- an exception's fields, by lookup -/
def IsFx : List (Nat × D) → List (Str × V) → Prop
  | [], _ => True
  | (f, d) :: r, vfs => (∃ v, vfs.lookup (G.fld f) = some v ∧ Is d v) ∧ IsFx r vfs
end
/-- a changeable object's content -/
def OIs (a : Addr) : MO → Prop
  | .lst ds => ∃ vs, H a = some (.lst vs) ∧ IsL G g H ds vs
  | .dic kvs => (∃ ks, H a = some (.dK ks) ∧ IsK G g H kvs ks) ∨ ∃ ks, H a = some (.dT ks) ∧ kvs ≠ [] ∧ IsT G g H kvs ks
  | .ins c fs => ∃ dx vfs, H a = some (.ins (G.ca c) dx vfs) ∧ IsFl G g H fs vfs
end
/-- what values lean on -/
structure NextI (g : Gs) (H : Hp) (g' : Gs) (H' : Hp) : Prop where
  μ : ∃ l, g'.μ = g.μ ++ l
  kI : ∀ a o, H a = some o → ¬ Mut (some o) → H' a = some o
/-- what stays from one state to a later one -/
structure Next (g : Gs) (H : Hp) (g' : Gs) (H' : Hp) : Prop where
  Z : g'.Z = g.Z
  μ : ∃ l, g'.μ = g.μ ++ l
  kZ : ∀ a, g.Z a → H' a = H a
  kI : ∀ a o, H a = some o → ¬ Mut (some o) → H' a = some o
theorem Next.i {g g' : Gs} {H H' : Hp} (N : Next g H g' H') : NextI g H g' H' := ⟨N.μ, N.kI⟩
theorem Next.refl (g : Gs) (H : Hp) : Next g H g H := ⟨rfl, ⟨[], by simp⟩, fun _ _ => rfl, fun _ _ h _ => h⟩
theorem Next.trans {g g1 g2 : Gs} {H H1 H2 : Hp} (a : Next g H g1 H1) (b : Next g1 H1 g2 H2) : Next g H g2 H2 where
  Z := b.Z.trans a.Z
  μ := by
    obtain ⟨l, e⟩ := a.μ
    obtain ⟨l', e'⟩ := b.μ
    exact ⟨l ++ l', by rw [e', e, List.append_assoc]⟩
  kZ := fun x h => (b.kZ x (by rw [a.Z]; exact h)).trans (a.kZ x h)
  kI := fun x o h n => b.kI x o (a.kI x o h n) n
section
variable {G : Ga} {g g' : Gs} {H H' : Hp}
theorem LF.nextI (N : NextI g H g' H') {K : PySem.W.Frag} {a : Addr} {vs : List V} (h : LF H K a vs) : LF H' K a vs := by
  rcases h with ⟨o, h⟩ | h
  · exact .inl ⟨o, N.kI a _ h fun z => z⟩
  · exact .inr h
theorem LF.sq {K : PySem.W.Frag} {a : Addr} {vs : List V} (h : LF H K a vs) : SqL K H a vs := by
  rcases h with ⟨o, h⟩ | ⟨its, n, e, l, r⟩
  · exact .inl (.inr ⟨o, h⟩)
  · exact .inr ⟨_, its.toArray, n, e, rfl, rfl, rfl, by simpa using l, by simpa using r⟩
theorem sqT_nextI (N : NextI g H g' H') {K : PySem.W.Frag} {a : Addr} {vs : List V} (h : SqT K H a vs) : SqT K H' a vs := by
  rcases h with (h | ⟨o, h⟩) | h
  · exact .inl (.inl (N.kI a _ h fun z => z))
  · exact .inl (.inr ⟨o, N.kI a _ h fun z => z⟩)
  · exact .inr h
theorem SqS.nextI (N : NextI g H g' H') {K : PySem.W.Frag} {a : Addr} {vs : List V} (h : SqS H K a vs) : SqS H' K a vs := by
  rcases h with ⟨o, h, d⟩ | h
  · exact .inl ⟨o, N.kI a _ h fun z => z, d⟩
  · exact .inr h
theorem SqS.t {K : PySem.W.Frag} {a : Addr} {vs : List V} (h : SqS H K a vs) : SqT K H a vs := by
  rcases h with ⟨o, h, _⟩ | ⟨o, its, n, e1, e2, _, e3⟩
  · exact .inl (.inr ⟨o, h⟩)
  · exact .inr ⟨o, its, n, e1, e2, e3⟩
mutual
theorem Is.nextI (N : NextI g H g' H') : ∀ {d : D} {v : V}, Is G g H d v → Is G g' H' d v
  | .non, _, h => h
  | .bl _, _, h => h
  | .int _, _, h => h
  | .str _, _, h => h
  | .tup ds, _, h => by
    simp only [Is] at h ⊢
    obtain ⟨a, vs, e, q, r⟩ := h
    exact ⟨a, vs, e, q.nextI N, IsL.nextI N r⟩
  | .tupw ds, _, h => by
    simp only [Is] at h ⊢
    obtain ⟨a, vs, e, q, r⟩ := h
    exact ⟨a, vs, e, N.kI a _ q fun z => z, IsL.nextI N r⟩
  | .lst ds, _, h => by
    simp only [Is] at h ⊢
    obtain ⟨a, vs, e, q, r⟩ := h
    exact ⟨a, vs, e, q.nextI N, IsL.nextI N r⟩
  | .dic kvs, _, h => by
    simp only [Is] at h ⊢
    obtain ⟨a, o, e, q⟩ := h
    refine ⟨a, o, e, ?_⟩
    rcases q with ⟨ks, q, r⟩ | ⟨ks, q, r⟩
    · exact .inl ⟨ks, N.kI a _ q fun z => z, IsK.nextI N r⟩
    · exact .inr ⟨ks, N.kI a _ q fun z => z, r.1, IsT.nextI N r.2⟩
  | .ins c fs, _, h => by
    simp only [Is] at h ⊢
    obtain ⟨a, dx, vfs, o, e, q, r⟩ := h
    exact ⟨a, dx, vfs, o, e, N.kI a _ q fun z => z, IsFl.nextI N r⟩
  | .exn c fs, _, h => by
    simp only [Is] at h ⊢
    obtain ⟨a, dd, e, q, r⟩ := h
    refine ⟨a, dd, e, q.imp (fun z => z) (fun ⟨z, o, u, z2, z3⟩ => ⟨z, o, u, N.kI a _ z2 (fun y => y), z3⟩), ?_⟩
    rcases r with r | ⟨d, vfs, e2, e3, r⟩
    · exact .inl r
    · exact .inr ⟨d, vfs, e2, N.kI d _ e3 fun z => z, IsFx.nextI N r⟩
  | .obj n, _, h => by
    simp only [Is] at h ⊢
    obtain ⟨a, e, q⟩ := h
    obtain ⟨l, el⟩ := N.μ
    refine ⟨a, e, ?_⟩
    rw [el, List.getElem?_append_left (List.getElem?_eq_some_iff.mp q).1]
    exact q
  | .fn _, _, h => h
  | .cls _, _, h => h
  | .ty _, _, h => h
theorem IsL.nextI (N : NextI g H g' H') : ∀ {ds : List D} {vs : List V}, IsL G g H ds vs → IsL G g' H' ds vs
  | [], [], _ => by simp only [IsL]
  | d :: ds, v :: vs, h => by
    simp only [IsL] at h ⊢
    exact ⟨Is.nextI N h.1, IsL.nextI N h.2⟩
  | [], _ :: _, h => by simp only [IsL] at h
  | _ :: _, [], h => by simp only [IsL] at h
theorem IsK.nextI (N : NextI g H g' H') : ∀ {ds : List (D × D)} {vs : List (Key × V)}, IsK G g H ds vs → IsK G g' H' ds vs
  | [], [], _ => by simp only [IsK]
  | (k, d) :: ds, (q, v) :: vs, h => by
    simp only [IsK] at h ⊢
    exact ⟨Is.nextI N h.1, Is.nextI N h.2.1, IsK.nextI N h.2.2⟩
  | [], _ :: _, h => by simp only [IsK] at h
  | _ :: _, [], h => by simp only [IsK] at h
theorem IsT.nextI (N : NextI g H g' H') : ∀ {ds : List (D × D)} {vs : List (List Key × V)}, IsT G g H ds vs → IsT G g' H' ds vs
  | [], [], _ => by simp only [IsT]
  | (k, d) :: ds, (q, v) :: vs, h => by
    cases k with
    | tup ks =>
      simp only [IsT] at h ⊢
      exact ⟨IsL.nextI N h.1, Is.nextI N h.2.1, IsT.nextI N h.2.2⟩
    | _ => simp only [IsT] at h
  | [], _ :: _, h => by simp only [IsT] at h
  | _ :: _, [], h => by simp only [IsT] at h
theorem IsFl.nextI (N : NextI g H g' H') : ∀ {ds : List (Nat × D)} {vs : List (Str × V)}, IsFl G g H ds vs → IsFl G g' H' ds vs
  | [], [], _ => by simp only [IsFl]
  | (k, d) :: ds, (q, v) :: vs, h => by
    simp only [IsFl] at h ⊢
    exact ⟨h.1, Is.nextI N h.2.1, IsFl.nextI N h.2.2⟩
  | [], _ :: _, h => by simp only [IsFl] at h
  | _ :: _, [], h => by simp only [IsFl] at h
theorem IsFx.nextI (N : NextI g H g' H') : ∀ {ds : List (Nat × D)} {vs : List (Str × V)}, IsFx G g H ds vs → IsFx G g' H' ds vs
  | [], _, _ => by simp only [IsFx]
  | (k, d) :: ds, vs, h => by
    simp only [IsFx] at h ⊢
    obtain ⟨⟨v, e, q⟩, r⟩ := h
    exact ⟨⟨v, e, Is.nextI N q⟩, IsFx.nextI N r⟩
end
theorem Is.next (N : Next g H g' H') {d : D} {v : V} (h : Is G g H d v) : Is G g' H' d v := Is.nextI N.i h
theorem IsL.next (N : Next g H g' H') {d : List D} {v : List V} (h : IsL G g H d v) : IsL G g' H' d v := IsL.nextI N.i h
theorem IsK.next (N : Next g H g' H') {d : List (D × D)} {v : List (Key × V)} (h : IsK G g H d v) : IsK G g' H' d v := IsK.nextI N.i h
theorem IsT.next (N : Next g H g' H') {d : List (D × D)} {v : List (List Key × V)} (h : IsT G g H d v) : IsT G g' H' d v := IsT.nextI N.i h
theorem IsFx.next (N : Next g H g' H') {d : List (Nat × D)} {v : List (Str × V)} (h : IsFx G g H d v) : IsFx G g' H' d v := IsFx.nextI N.i h
theorem IsFl.next (N : Next g H g' H') {d : List (Nat × D)} {v : List (Str × V)} (h : IsFl G g H d v) : IsFl G g' H' d v := IsFl.nextI N.i h
/-- a changeable object that is as it was -/
theorem OIs.nextI (N : NextI g H g' H') {a : Addr} (k : H' a = H a) : ∀ {o : MO}, OIs G g H a o → OIs G g' H' a o
  | .lst _, ⟨vs, q, r⟩ => ⟨vs, k.trans q, r.nextI N⟩
  | .dic _, .inl ⟨ks, q, r⟩ => .inl ⟨ks, k.trans q, r.nextI N⟩
  | .dic _, .inr ⟨ks, q, r⟩ => .inr ⟨ks, k.trans q, r.1, r.2.nextI N⟩
  | .ins _ _, ⟨dx, vfs, q, r⟩ => ⟨dx, vfs, k.trans q, r.nextI N⟩
theorem OIs.next (N : Next g H g' H') {a : Addr} (k : H' a = H a) {o : MO} (h : OIs G g H a o) : OIs G g' H' a o := h.nextI N.i k
theorem OIs.some {a : Addr} {o : MO} (h : OIs G g H a o) : ∃ u, H a = some u := by
  cases o with
  | lst ds => obtain ⟨vs, q, _⟩ := h; exact ⟨_, q⟩
  | dic kvs => rcases h with ⟨ks, q, _⟩ | ⟨ks, q, _⟩ <;> exact ⟨_, q⟩
  | ins c fs => obtain ⟨dx, vfs, q, _⟩ := h; exact ⟨_, q⟩
theorem OIs.mut {a : Addr} {o : MO} (h : OIs G g H a o) : Mut (H a) := by
  cases o with
  | lst ds => obtain ⟨vs, q, _⟩ := h; rw [q]; trivial
  | dic kvs => rcases h with ⟨ks, q, _⟩ | ⟨ks, q, _⟩ <;> (rw [q]; trivial)
  | ins c fs => obtain ⟨dx, vfs, q, _⟩ := h; rw [q]; trivial
theorem IsL.length : ∀ {ds : List D} {vs : List V}, IsL G g H ds vs → ds.length = vs.length
  | [], [], _ => rfl
  | d :: ds, v :: vs, h => by
    simp only [IsL] at h
    exact congrArg Nat.succ (IsL.length h.2)
  | [], _ :: _, h => by simp only [IsL] at h
  | _ :: _, [], h => by simp only [IsL] at h
theorem IsL.get : ∀ {ds : List D} {vs : List V} {i : Nat} {d : D}, IsL G g H ds vs → ds[i]? = some d → ∃ v, vs[i]? = some v ∧ Is G g H d v
  | [], [], _, _, _, e => by simp at e
  | d :: ds, v :: vs, 0, x, h, e => by
    simp only [IsL] at h
    simp at e
    subst e
    exact ⟨v, rfl, h.1⟩
  | d :: ds, v :: vs, i + 1, x, h, e => by
    simp only [IsL] at h
    obtain ⟨w, h1, h2⟩ := IsL.get (i := i) h.2 (by simpa using e)
    exact ⟨w, by simpa using h1, h2⟩
  | [], _ :: _, _, _, h, _ => by simp only [IsL] at h
  | _ :: _, [], _, _, h, _ => by simp only [IsL] at h
theorem IsL.append : ∀ {ds es : List D} {vs ws : List V}, IsL G g H ds vs → IsL G g H es ws → IsL G g H (ds ++ es) (vs ++ ws)
  | [], _, [], _, _, h => h
  | d :: ds, es, v :: vs, ws, h, k => by
    simp only [IsL] at h
    simp only [List.cons_append, IsL]
    exact ⟨h.1, IsL.append h.2 k⟩
  | [], _, _ :: _, _, h, _ => by simp only [IsL] at h
  | _ :: _, _, [], _, h, _ => by simp only [IsL] at h
theorem IsL.take : ∀ {ds : List D} {vs : List V} (n : Nat), IsL G g H ds vs → IsL G g H (ds.take n) (vs.take n)
  | _, _, 0, _ => by simp [IsL]
  | [], [], _ + 1, _ => by simp [IsL]
  | d :: ds, v :: vs, n + 1, h => by
    simp only [IsL] at h
    simp only [List.take_succ_cons, IsL]
    exact ⟨h.1, IsL.take n h.2⟩
  | [], _ :: _, _, h => by simp only [IsL] at h
  | _ :: _, [], _, h => by simp only [IsL] at h
theorem IsL.drop : ∀ {ds : List D} {vs : List V} (n : Nat), IsL G g H ds vs → IsL G g H (ds.drop n) (vs.drop n)
  | _, _, 0, h => h
  | [], [], _ + 1, _ => by simp [IsL]
  | d :: ds, v :: vs, n + 1, h => by
    simp only [IsL] at h
    simp only [List.drop_succ_cons]
    exact IsL.drop n h.2
  | [], _ :: _, _, h => by simp only [IsL] at h
  | _ :: _, [], _, h => by simp only [IsL] at h
end
/-! ### the whole state -/
structure HRel (G : Ga) (g : Gs) (H : Hp) (M : MH) : Prop where
  ZH : ∀ a, g.Z a → ∃ o, H a = some o
  len : g.μ.length = M.length
  nd : g.μ.Nodup
  mZ : ∀ a ∈ g.μ, ¬ g.Z a
  ob : ∀ (n : Nat) (a : Addr) (o : MO), g.μ[n]? = some a → M[n]? = some o → OIs G g H a o
structure Rel (G : Ga) (g : Gs) (σ : St) (H : Hp) (env : Env) (M : MH) : Prop extends HRel G g H M where
  el : env.length = σ.length
  sl : ∀ (i : Nat) (d : D), env[i]? = some (some (.val d)) → ∃ v, σ[i]? = some (some v) ∧ Is G g H d v
  ow : ∀ (i : Nat) (o : MO), env[i]? = some (some (.own o)) → ∃ a, σ[i]? = some (some (.ref a)) ∧ OIs G g H a o ∧ ¬ g.Z a ∧ a ∉ g.μ
  di : ∀ (i j : Nat) (a : Addr) (o o' : MO), env[i]? = some (some (.own o)) → env[j]? = some (some (.own o')) → σ[i]? = some (some (.ref a)) → σ[j]? = some (some (.ref a)) → i = j
/-- only new objects -/
def Grow (H H' : Hp) : Prop := ∀ a o, H a = some o → H' a = some o
theorem Grow.refl (H : Hp) : Grow H H := fun _ _ h => h
theorem Grow.upd {H : Hp} {p : Addr} {o : HO} (n : H p = none) : Grow H (upd H p o) := fun a u h => by rw [upd_ne (ne_of_none h n)]; exact h
section
variable {G : Ga} {g g' : Gs} {σ : St} {H H' : Hp} {env : Env} {M : MH}
theorem HRel.grows (R : HRel G g H M) (w : Grow H H') : Next g H g H' :=
  ⟨rfl, ⟨[], by simp⟩, fun a h => by obtain ⟨o, e⟩ := R.ZH a h; rw [e, w a o e], fun a o h _ => w a o h⟩
theorem HRel.mu (R : HRel G g H M) {a : Addr} (h : a ∈ g.μ) : ∃ o, H a = some o := by
  obtain ⟨n, hn, e⟩ := List.mem_iff_getElem.mp h
  have hm : n < M.length := by rw [← R.len]; exact hn
  exact (R.ob n a M[n] (by rw [List.getElem?_eq_getElem hn, e]) (List.getElem?_eq_getElem hm)).some
theorem HRel.grow (R : HRel G g H M) (w : Grow H H') : HRel G g H' M :=
  ⟨fun a h => let ⟨o, e⟩ := R.ZH a h; ⟨o, w a o e⟩, R.len, R.nd, R.mZ, fun n a o h1 h2 => by
    have q := R.ob n a o h1 h2
    obtain ⟨u, e⟩ := q.some
    exact q.next (R.grows w) (by rw [e, w a u e])⟩
theorem Rel.grow (R : Rel G g σ H env M) (w : Grow H H') : Rel G g σ H' env M :=
  ⟨R.toHRel.grow w, R.el, fun i d h => let ⟨v, e, q⟩ := R.sl i d h; ⟨v, e, q.next (R.toHRel.grows w)⟩, fun i o h => by
    obtain ⟨a, e, q, r⟩ := R.ow i o h
    obtain ⟨u, eu⟩ := q.some
    exact ⟨a, e, q.next (R.toHRel.grows w) (by rw [eu, w a u eu]), r⟩, R.di⟩
end
/-! ### what is told of results -/
section
variable (G : Ga) (g : Gs) (H : Hp) (σ : St) (env : Env)
/-- a result: a value, or a new object that nobody holds -/
def SVIs (v : V) : SV → Prop
  | .val d => Is G g H d v
  | .own o => ∃ a, v = .ref a ∧ OIs G g H a o ∧ ¬ g.Z a ∧ a ∉ g.μ ∧ ∀ (i : Nat) (o' : MO), env[i]? = some (some (.own o')) → σ[i]? ≠ some (some (.ref a))
def PVIs (v : V) : PV → Prop
  | .v d => Is G g H d v
  | .sl i => σ[i]? = some (some v)
/-- what an operand holds, whoever holds it -/
def Vw (d : D) (v : V) : Prop := Is G g H d v ∨ ∃ a o, v = .ref a ∧ OIs G g H a o ∧ d = o.snap
/-- the exception in the air -/
def XIs (cls : Value) (d : Option Addr) (x : Xn) : Prop := cls = .ref (G.ca x.c) ∧ match d with
  | none => x.fs = []
  | some dd => ∃ vfs, H dd = some (.xd vfs) ∧ IsFx G g H x.fs vfs
end
def PostR (G : Ga) (W : WX) (g : Gs) (H : Hp) (σ : St) {α : Type} (r : Res α) (ok : α → Env → MH → Prop) : Prop := match r with
  | .ok a e m => ok a e m
  | .err x e m => ∀ (H' : Hp) (g' : Gs) (cls : Value) (d : Option Addr), Next g H g' H' → Rel G g' σ H' e m → XIs G g' H' cls d x → W cls d σ H'
  | .stuck => False
/-- the reading of an evaluation -/
def tV (G : Ga) (W : WX) {α : Type} (RV : Gs → Hp → St → Env → V → α → Prop) (m : EM α) : TE := fun σ H Q => ∃ g e M, Rel G g σ H e M ∧
  PostR G W g H σ (m e M) fun a e' M' => ∀ (v : V) (H' : Hp) (g' : Gs), Next g H g' H' → Rel G g' σ H' e' M' → RV g' H' σ e' v a → Q v H'
abbrev tE (G : Ga) (W : WX) (m : EM SV) : TE := tV G W (fun g H σ e v s => SVIs G g H σ e v s) m
abbrev tP (G : Ga) (W : WX) (m : EM PV) : TE := tV G W (fun g H σ _ v p => PVIs G g H σ v p) m
abbrev tU (G : Ga) (W : WX) (m : EM D) : TE := tV G W (fun g H _ _ v d => Is G g H d v) m
def tT (G : Ga) (W : WX) (m : EM Bool) : TT := fun σ H Q => ∃ g e M, Rel G g σ H e M ∧
  PostR G W g H σ (m e M) fun b e' M' => ∀ (H' : Hp) (g' : Gs), Next g H g' H' → Rel G g' σ H' e' M' → Q b H'
def tA (G : Ga) (W : WX) (m : EM (List D)) : TA := fun σ H Q => ∃ g e M, Rel G g σ H e M ∧
  PostR G W g H σ (m e M) fun ds e' M' => ∀ (vs : List V) (H' : Hp) (g' : Gs), Next g H g' H' → Rel G g' σ H' e' M' → IsL G g' H' ds vs → Q vs H'
def PVL (G : Ga) (g : Gs) (H : Hp) (σ : St) : List PV → List V → Prop
  | [], [] => True
  | p :: ps, v :: vs => PVIs G g H σ v p ∧ PVL G g H σ ps vs
  | _, _ => False
def tAP (G : Ga) (W : WX) (m : EM (List PV)) : TA := fun σ H Q => ∃ g e M, Rel G g σ H e M ∧
  PostR G W g H σ (m e M) fun ds e' M' => ∀ (vs : List V) (H' : Hp) (g' : Gs), Next g H g' H' → Rel G g' σ H' e' M' → PVL G g' H' σ ds vs → Q vs H'
/-- the reading of a statement -/
def PostS (G : Ga) (W : WX) (g : Gs) (H : Hp) (D : Ends) (r : Res Fl) : Prop := match r with
  | .ok .nx e' M' => ∀ (σ' : St) (H' : Hp) (g' : Gs), Next g H g' H' → Rel G g' σ' H' e' M' → D.nx σ' H'
  | .ok .bk e' M' => ∀ (σ' : St) (H' : Hp) (g' : Gs), Next g H g' H' → Rel G g' σ' H' e' M' → D.bk σ' H'
  | .ok .ct e' M' => ∀ (σ' : St) (H' : Hp) (g' : Gs), Next g H g' H' → Rel G g' σ' H' e' M' → D.ct σ' H'
  | .ok (.ret s) e' M' => ∀ (v : V) (H' : Hp) (g' : Gs), Next g H g' H' → HRel G g' H' M' → SVIs G g' H' [] [] v s → D.rt v H'
  | .err x e' M' => ∀ (σ' : St) (H' : Hp) (g' : Gs) (cls : Value) (d : Option Addr), Next g H g' H' → Rel G g' σ' H' e' M' → XIs G g' H' cls d x → W cls d σ' H'
  | .stuck => False
def tS (G : Ga) (W : WX) (m : EM Fl) : TS := fun D σ H => ∃ g e M, Rel G g σ H e M ∧ PostS G W g H D (m e M)
/-- only these slots have changed -/
def Only1 (is : List Nat) (σ σ' : St) : Prop := σ'.length = σ.length ∧ ∀ j, j ∉ is → σ'[j]? = σ[j]?
def tGt (G : Ga) (t : PI.TG) (is : List Nat) : L2.TG := fun v σ H Q => ∃ g e M d e', Rel G g σ H e M ∧ Is G g H d v ∧ t d e = some e' ∧ ∀ (σ' : St) (H' : Hp) (g' : Gs), Next g H g' H' → Rel G g' σ' H' e' M → Only1 is σ σ' → Q σ' H'
def tGts (G : Ga) (ts : List PI.TG) (is : List Nat) : L2.TGs := fun vs σ H Q => ∃ g e M ds e', Rel G g σ H e M ∧ IsL G g H ds vs ∧ gGo ts ds e = some e' ∧ ∀ (σ' : St) (H' : Hp) (g' : Gs), Next g H g' H' → Rel G g' σ' H' e' M → Only1 is σ σ' → Q σ' H'
/-- what a loop walks: the items, one after another -/
def ItIs (G : Ga) (g : Gs) (H : Hp) (J : It) (ds : List D) : Prop := ∀ (i : Nat) (g2 : Gs) (H2 : Hp), Next g H g2 H2 →
  (∀ d, ds[i]? = some d → J.go i H2 ∧ ∀ x H3, J.yld i H2 x H3 → Grow H2 H3 ∧ Is G g2 H3 d x) ∧ (ds.length ≤ i → J.stop i H2)
def tI (G : Ga) (W : WX) (m : EM (List D)) : TI := fun σ H R => ∃ g e M, Rel G g σ H e M ∧
  PostR G W g H σ (m e M) fun ds e' M' => ∀ (J : It) (H' : Hp) (g' : Gs), Next g H g' H' → Rel G g' σ H' e' M' → ItIs G g' H' J ds → ds.length ≤ sizeLine → R J H'
/-! ### judgements -/
abbrev PEI (X : Cx) (G : Ga) (W : WX) (e : Expr) (m : EM SV) : Prop := PE X e (tE G W m)
abbrev PPI (X : Cx) (G : Ga) (W : WX) (e : Expr) (m : EM PV) : Prop := PE X e (tP G W m)
abbrev PUI (X : Cx) (G : Ga) (W : WX) (e : Expr) (m : EM D) : Prop := PE X e (tU G W m)
abbrev PTI (X : Cx) (G : Ga) (W : WX) (e : Expr) (m : EM Bool) : Prop := PT X e (tT G W m)
abbrev PAI (X : Cx) (G : Ga) (W : WX) (es : List Expr) (m : EM (List D)) : Prop := PA X es (tA G W m)
abbrev PAPI (X : Cx) (G : Ga) (W : WX) (es : List Expr) (m : EM (List PV)) : Prop := PA X es (tAP G W m)
abbrev PGI (X : Cx) (G : Ga) (e : Expr) (t : PI.TG) (is : List Nat) : Prop := PG X e (tGt G t is)
abbrev PGsI (X : Cx) (G : Ga) (es : List Expr) (ts : List PI.TG) (is : List Nat) : Prop := PGs X es (tGts G ts is)
abbrev PII (X : Cx) (G : Ga) (W : WX) (tg e : Expr) (m : EM (List D)) : Prop := PI X tg e (tI G W m)
abbrev PSI (X : Cx) (G : Ga) (W : WX) (st : Stmt) (m : EM Fl) : Prop := PS X st (tS G W m)
abbrev PSsI (X : Cx) (G : Ga) (W : WX) (st : List Stmt) (m : EM Fl) : Prop := PSs X st (tS G W m)
theorem PE.imp {X : Cx} {e : Expr} {t t' : TE} (h : PE X e t) (w : ∀ σ H Q, t' σ H Q → t σ H Q) : PE X e t' := ⟨fun pins s σ H Q I q => h.run pins s σ H Q I (w σ H Q q)⟩
theorem PT.imp {X : Cx} {e : Expr} {t t' : TT} (h : PT X e t) (w : ∀ σ H Q, t' σ H Q → t σ H Q) : PT X e t' := ⟨fun pins s σ H Q I q => h.run pins s σ H Q I (w σ H Q q)⟩
theorem PW.imp {X : Cx} {e : Expr} {t t' : TT} (h : PW X e t) (w : ∀ σ H Q, t' σ H Q → t σ H Q) : PW X e t' := ⟨fun wh pins s σ H Q I q => h.run wh pins s σ H Q I (w σ H Q q)⟩
theorem PA.imp {X : Cx} {e : List Expr} {t t' : TA} (h : PA X e t) (w : ∀ σ H Q, t' σ H Q → t σ H Q) : PA X e t' := ⟨fun p pins s σ H Q I q => h.run p pins s σ H Q I (w σ H Q q)⟩
theorem PG.imp {X : Cx} {e : Expr} {t t' : L2.TG} (h : PG X e t) (w : ∀ v σ H Q, t' v σ H Q → t v σ H Q) : PG X e t' := ⟨fun pins s σ H v u Q I r q => h.run pins s σ H v u Q I r (w v σ H Q q)⟩
theorem PGs.imp {X : Cx} {e : List Expr} {t t' : L2.TGs} (h : PGs X e t) (w : ∀ v σ H Q, t' v σ H Q → t v σ H Q) : PGs X e t' := ⟨fun pins s σ H v u Q I r q => h.run pins s σ H v u Q I r (w v σ H Q q)⟩
theorem PI.imp {X : Cx} {tg e : Expr} {t t' : TI} (h : PI X tg e t) (w : ∀ σ H Q, t' σ H Q → t σ H Q) : PI X tg e t' := ⟨fun pins s σ H Q I q => h.run pins s σ H Q I (w σ H Q q)⟩
theorem PS.imp {X : Cx} {e : Stmt} {t t' : TS} (h : PS X e t) (w : ∀ D σ H, t' D σ H → t D σ H) : PS X e t' := ⟨fun pins s σ H D I q => h.run pins s σ H D I (w D σ H q)⟩
theorem PSs.imp {X : Cx} {e : List Stmt} {t t' : TS} (h : PSs X e t) (w : ∀ D σ H, t' D σ H → t D σ H) : PSs X e t' := ⟨fun pins s σ H D I q => h.run pins s σ H D I (w D σ H q)⟩
end PI
/-! PISnd1: the combinators are sound: names, constants, operators, tests, arguments, statements. -/
namespace PI
open PySem PySem.Spec PyProof.Rows L2
/-- what my rules ask of the context -/
structure XJ (X : Cx) (G : Ga) (W : WX) : Prop where
  K : X.K = G.K
  nd : X.N.Nodup
  room : L2H.RoomH 0 X.A
  gd : GdOk G.pg X.A
  tk : L2N.Takes X W
  po : PassesOwn (model X.prog X.w) X.A X.env X.xe
theorem _root_.L2H.RoomH.units {k : Nat} {A : Around} (r : L2H.RoomH k A) : A.units + 64 < cLine := by have := r.un; omega
structure XI (X : Cx) (G : Ga) (W : WX) (k : Nat) : Prop extends XJ X G W where
  rm : L2H.RoomH k X.A
  calm : X.calm = true
  hd : X.A.handled = none
instance {X : Cx} {G : Ga} {W : WX} {k : Nat} : CoeOut (XI X G W k) (XJ X G W) := ⟨XI.toXJ⟩
theorem XI.roomC {X : Cx} {G : Ga} {W : WX} {k : Nat} (c : XI X G W k) : Room k X.A := ⟨c.hd, c.rm.dp, c.rm.un⟩
theorem XI.mono {X : Cx} {G : Ga} {W : WX} {j k : Nat} (c : XI X G W k) (h : j ≤ k) : XI X G W j := ⟨⟨c.K, c.nd, c.room, c.gd, c.tk, c.po⟩, c.rm.mono h, c.calm, c.hd⟩
section
variable {G : Ga} {g g' : Gs} {σ : St} {H H' : Hp} {env : Env} {M : MH} {a : Addr} {o : MO}
theorem HRel.next (R : HRel G g H M) (N : Next g H g H') (hm : ∀ b ∈ g.μ, H' b = H b) : HRel G g H' M :=
  ⟨fun b h => let ⟨u, e⟩ := R.ZH b h; ⟨u, (N.kZ b h).trans e⟩, R.len, R.nd, R.mZ, fun n b u h1 h2 => (R.ob n b u h1 h2).next N (hm b (List.mem_of_getElem? h1))⟩
theorem Rel.next (R : Rel G g σ H env M) (N : Next g H g H') (hm : ∀ b ∈ g.μ, H' b = H b)
    (ho : ∀ (i : Nat) (u : MO) (b : Addr), env[i]? = some (some (.own u)) → σ[i]? = some (some (.ref b)) → H' b = H b) : Rel G g σ H' env M :=
  ⟨R.toHRel.next N hm, R.el, fun i d h => let ⟨v, e, q⟩ := R.sl i d h; ⟨v, e, q.next N⟩, fun i u h => by
    obtain ⟨b, e, q, r⟩ := R.ow i u h
    exact ⟨b, e, q.next N (ho i u b h e), r⟩, R.di⟩
theorem upd_next (hz : ¬ g.Z a) (hm : Mut (H a)) (u : HO) : Next g H g (upd H a u) :=
  ⟨rfl, ⟨[], by simp⟩, fun b h => upd_ne fun e => hz (e ▸ h), fun b v h n => by
    rw [upd_ne fun e => n (by rw [← e, h] at hm; exact hm)]
    exact h⟩
/-- an own object that is in no slot is frozen -/
theorem freeze_own {X : Cx} {pins : List (Addr × Obj)} {s : Shared} {v : V} (I : Inv X pins σ H s) (R : Rel G g σ H env M) (h : SVIs G g H σ env v (.own o)) :
    ∃ H', Inv X pins σ H' s ∧ Next g H g H' ∧ Rel G g σ H' env M ∧ Is G g H' o.snap v := by
  obtain ⟨a, rfl, q, z, m, ns⟩ := h
  have fin : ∀ u : HO, Next g H g (upd H a u) ∧ Rel G g σ (upd H a u) env M := fun u => by
    have N := upd_next (u := u) z q.mut
    refine ⟨N, R.next N (fun b hb => upd_ne fun e => m (e ▸ hb)) fun i w b h1 h2 => upd_ne fun e => ns i w h1 (e ▸ h2)⟩
  cases o with
  | lst ds =>
    obtain ⟨vs, e, r⟩ := q
    obtain ⟨od, J⟩ := I.lock e (by trivial)
    refine ⟨_, J, (fin _).1, (fin _).2, ?_⟩
    simp only [MO.snap, Is]
    exact ⟨a, vs, rfl, .inl ⟨od, upd_same⟩, r.next (fin _).1⟩
  | dic kvs =>
    rcases q with ⟨ks, e, r⟩ | ⟨ks, e, r⟩
    · obtain ⟨od, J⟩ := I.lock e (by trivial)
      refine ⟨_, J, (fin _).1, (fin _).2, ?_⟩
      simp only [MO.snap, Is]
      exact ⟨a, od, rfl, .inl ⟨ks, upd_same, r.next (fin _).1⟩⟩
    · obtain ⟨od, J⟩ := I.lock e (by trivial)
      refine ⟨_, J, (fin _).1, (fin _).2, ?_⟩
      simp only [MO.snap, Is]
      exact ⟨a, od, rfl, .inr ⟨ks, upd_same, r.1, r.2.next (fin _).1⟩⟩
  | ins c fs =>
    obtain ⟨dx, vfs, e, r⟩ := q
    obtain ⟨od, J⟩ := I.lock e (by trivial)
    refine ⟨_, J, (fin _).1, (fin _).2, ?_⟩
    simp only [MO.snap, Is]
    exact ⟨a, dx, vfs, od, rfl, upd_same, r.next (fin _).1⟩
/-- a slot's own object comes out of the slot -/
theorem Rel.out {i : Nat} {d : D} {v : V} (R : Rel G g σ H env M) (hi : σ[i]? = some (some v)) (h : Is G g H d v) : Rel G g σ H (setS env i (.val d)) M := by
  refine ⟨R.toHRel, by unfold setS; rw [List.length_set]; exact R.el, fun j e h1 => ?_, fun j u h1 => ?_, fun j k b u u' h1 h2 => ?_⟩
  all_goals unfold setS at *
  · by_cases hj : i = j
    · subst hj
      have hl : i < env.length := by
        have := (List.getElem?_eq_some_iff.mp hi).1
        rw [R.el]; exact this
      rw [List.getElem?_set_self hl] at h1
      cases h1
      exact ⟨v, hi, h⟩
    · rw [List.getElem?_set_ne hj] at h1
      exact R.sl j e h1
  · by_cases hj : i = j
    · subst hj
      have hl : i < env.length := by
        have := (List.getElem?_eq_some_iff.mp hi).1
        rw [R.el]; exact this
      rw [List.getElem?_set_self hl] at h1
      cases h1
    · rw [List.getElem?_set_ne hj] at h1
      exact R.ow j u h1
  · have aux : ∀ {j : Nat} {u : MO}, (List.set env i (some (.val d)))[j]? = some (some (.own u)) → env[j]? = some (some (.own u)) := fun {j u} h1 => by
      by_cases hj : i = j
      · subst hj
        have hl : i < env.length := by
          have := (List.getElem?_eq_some_iff.mp hi).1
          rw [R.el]; exact this
        rw [List.getElem?_set_self hl] at h1
        cases h1
      · rw [List.getElem?_set_ne hj] at h1
        exact h1
    exact R.di j k b u u' (aux h1) (aux h2)
theorem getD_some {env : Env} {i : Nat} {s : SV} (h : env.getD i none = some s) : env[i]? = some (some s) := by
  rw [List.getD_eq_getElem?_getD] at h
  cases e : env[i]? with
  | none => rw [e] at h; cases h
  | some x => rw [e] at h; exact congrArg some h
theorem PostR.ok {W : WX} {α : Type} {r : Res α} {k : α → Env → MH → Prop} (h : PostR G W g H σ r k) : (∃ a e m, r = .ok a e m ∧ k a e m) ∨ (∃ x e m, r = .err x e m ∧ ∀ (H' : Hp) (g' : Gs) (cls : Value) (d : Option Addr), Next g H g' H' → Rel G g' σ H' e m → XIs G g' H' cls d x → W cls d σ H') := by
  cases r with
  | ok a e m => exact .inl ⟨a, e, m, rfl, h⟩
  | err x e m => exact .inr ⟨x, e, m, rfl, h⟩
  | stuck => exact False.elim h
theorem PostR.mono {W : WX} {α : Type} {r : Res α} {k k' : α → Env → MH → Prop} (h : PostR G W g H σ r k) (w : ∀ a e m, r = .ok a e m → k a e m → k' a e m) : PostR G W g H σ r k' := by
  cases r with
  | ok a e m => exact w a e m rfl h
  | err x e m => exact h
  | stuck => exact False.elim h
/-- a run behind another one -/
theorem PostR.bind {W : WX} {α β : Type} {r : Res α} {f : α → EM β} {k : β → Env → MH → Prop} (h : PostR G W g H σ (r.bind f) k) :
    PostR G W g H σ r fun a e m => PostR G W g H σ (f a e m) k := by
  cases r with
  | ok a e m => exact h
  | err x e m => exact h
  | stuck => exact h
/-- from the state reached -/
theorem PostR.from {W : WX} {α : Type} {r : Res α} {k : α → Env → MH → Prop} (N : Next g H g' H') (h : PostR G W g H σ r k) : PostR G W g' H' σ r k := by
  cases r with
  | ok a e m => exact h
  | err x e m => exact fun H2 g2 cls d N2 => h H2 g2 cls d (N.trans N2)
  | stuck => exact h
end
section
variable {X : Cx} {G : Ga} {W : WX}
/-! ### names, constants -/
theorem okLoc (i : Nat) {x : Str} {pos : Pos} (hN : X.N[i]? = some x := by rfl) (hv : Vis X.env.scope x := by first | exact Or.inl rfl | exact Or.inr (Or.inl rfl) | exact Or.inr (Or.inr rfl)) (hd : (x == ("__debug__" : Str)) = false := by decide)
    (hcd : (x == ("__classdict__" : Str)) = false := by decide) : PEI X G W (.Name x pos) (eLoc i) := by
  refine ⟨fun pins s σ H Q I h => ?_⟩
  obtain ⟨g, e, M, R, h⟩ := h
  unfold eLoc at h
  cases q : e.getD i none with
  | none => rw [q] at h; exact False.elim h
  | some sv =>
    rw [q] at h
    have qi := getD_some q
    cases sv with
    | val d =>
      obtain ⟨v, e1, r⟩ := R.sl i d qi
      exact (pe_var (X := X) hN hv hd hcd).run pins s σ H Q I ⟨v, e1, h v H g (Next.refl _ _) R r⟩
    | own o =>
      obtain ⟨a, e1, r, z, m⟩ := R.ow i o qi
      refine thn ((pe_var (X := X) hN hv hd hcd).run pins s σ H (fun v H1 => v = .ref a ∧ H1 = H) I ⟨.ref a, e1, rfl, rfl⟩) fun u s1 hu => ?_
      obtain ⟨v, H1, I1, ru, ev, eH⟩ := hu
      subst ev eH
      -- the slot's object is frozen, then read
      have il : i < σ.length := (List.getElem?_eq_some_iff.mp e1).1
      have ie : i < e.length := by rw [R.el]; exact il
      have R0 : Rel G g σ H1 (e.set i none) M := by
        have aux : ∀ {j : Nat} {w : SV}, (e.set i none)[j]? = some (some w) → e[j]? = some (some w) ∧ j ≠ i := fun {j w} h1 => by
          by_cases hj : i = j
          · subst hj
            rw [List.getElem?_set_self ie] at h1
            cases h1
          · rw [List.getElem?_set_ne hj] at h1
            exact ⟨h1, fun z => hj z.symm⟩
        exact ⟨R.toHRel, by rw [List.length_set]; exact R.el, fun j d h1 => R.sl j d (aux h1).1, fun j w h1 => R.ow j w (aux h1).1, fun j k b w w' h1 h2 => R.di j k b w w' (aux h1).1 (aux h2).1⟩
      have sv : SVIs G g H1 σ (e.set i none) (.ref a) (.own o) := ⟨a, rfl, r, z, m, fun j w h1 h2 => by
        have hj : i ≠ j := fun z => by
          subst z
          rw [List.getElem?_set_self ie] at h1
          cases h1
        rw [List.getElem?_set_ne hj] at h1
        exact hj (R.di i j a o w qi h1 e1 h2)⟩
      obtain ⟨H2, I2, N2, R2, s2⟩ := freeze_own I1 R0 sv
      refine ⟨.ref a, H2, I2, ru, h (.ref a) H2 g N2 ?_ s2⟩
      have := R2.out e1 s2
      have es : setS (e.set i none) i (.val o.snap) = setS e i (.val o.snap) := by unfold setS; rw [List.set_set]
      rw [es] at this
      exact this
theorem okPLoc (i : Nat) {x : Str} {pos : Pos} (hN : X.N[i]? = some x := by rfl) (hv : Vis X.env.scope x := by first | exact Or.inl rfl | exact Or.inr (Or.inl rfl) | exact Or.inr (Or.inr rfl)) (hd : (x == ("__debug__" : Str)) = false := by decide)
    (hcd : (x == ("__classdict__" : Str)) = false := by decide) : PPI X G W (.Name x pos) (pLoc i) := by
  refine ⟨fun pins s σ H Q I h => ?_⟩
  obtain ⟨g, e, M, R, h⟩ := h
  unfold pLoc at h
  cases q : e.getD i none with
  | none => rw [q] at h; exact False.elim h
  | some sv =>
    rw [q] at h
    have qi := getD_some q
    cases sv with
    | val d =>
      obtain ⟨v, e1, r⟩ := R.sl i d qi
      exact (pe_var (X := X) hN hv hd hcd).run pins s σ H Q I ⟨v, e1, h v H g (Next.refl _ _) R r⟩
    | own o =>
      obtain ⟨a, e1, r, z, m⟩ := R.ow i o qi
      exact (pe_var (X := X) hN hv hd hcd).run pins s σ H Q I ⟨.ref a, e1, h _ H g (Next.refl _ _) R e1⟩
/-- return x: the object goes out -/
theorem okMov (i : Nat) {x : Str} {pos pos' : Pos} (hN : X.N[i]? = some x := by rfl) (hv : Vis X.env.scope x := by first | exact Or.inl rfl | exact Or.inr (Or.inl rfl) | exact Or.inr (Or.inr rfl)) (hd : (x == ("__debug__" : Str)) = false := by decide)
    (hcd : (x == ("__classdict__" : Str)) = false := by decide) : PSI X G W (.Return (some (.Name x pos)) pos') (sRet (eMov i)) := by
  refine PS.imp (ps_ret (pe_var (X := X) hN hv hd hcd)) fun D σ H h => ?_
  obtain ⟨g, e, M, R, h⟩ := h
  simp only [sRet, eMov, EM.bind] at h
  cases q : e.getD i none with
  | none => rw [q] at h; exact False.elim h
  | some sv =>
    rw [q] at h
    have qi := getD_some q
    cases sv with
    | val d =>
      obtain ⟨v, e1, r⟩ := R.sl i d qi
      exact ⟨v, e1, h v H g (Next.refl _ _) R.toHRel r⟩
    | own o =>
      obtain ⟨a, e1, r, z, m⟩ := R.ow i o qi
      exact ⟨.ref a, e1, h _ H g (Next.refl _ _) R.toHRel ⟨a, rfl, r, z, m, fun j w h1 => by simp at h1⟩⟩
theorem okCon {e : Expr} {v : V} {d : D} (he : PE X e (tC v)) (hI : ∀ g H, Is G g H d v) : PEI X G W e (eCon d) :=
  PE.imp he fun σ H Q ⟨g, e, M, R, h⟩ => h v H g (Next.refl _ _) R (hI g H)
theorem okInt {i j pos} : PEI X G W (.Constant (.int i) j pos) (eCon (.int i)) := okCon pe_int fun _ _ => rfl
theorem okBl {b j pos} : PEI X G W (.Constant (.bool b) j pos) (eCon (.bl b)) := okCon pe_bl fun _ _ => rfl
theorem okStr {x j pos} {cs : List Nat} (h : x = ⟨cs.toArray⟩ := by decide +kernel) (hl : Nat.ble cs.length 1000 = true := by rfl) : PEI X G W (.Constant (.str x) j pos) (eCon (.str cs)) := by
  subst h
  have hl := Nat.le_of_ble_eq_true hl
  exact okCon pe_str fun _ _ => ⟨rfl, by rw [sizeLine_eq]; omega⟩
/-- a name of the module: d as it stands there -/
theorem okGlo {x : Str} {v : V} {u : Value} {d : D} {pos : Pos} (hm : X.mg x = some u) (r : RelV v u) (hI : ∀ g H, Is G g H d v) (hg : Gl X x := by rfl) (hd : (x == ("__debug__" : Str)) = false := by decide) : PEI X G W (.Name x pos) (eCon d) :=
  okCon (pe_glob hg hm r hd) hI
/-! ### operands -/
theorem okPOf {e : Expr} {m : EM SV} (he : PEI X G W e m) : PPI X G W e (pOf m) := by
  refine ⟨fun pins s σ H Q I h => ?_⟩
  obtain ⟨g, e0, M, R, h⟩ := h
  have h2 := PostR.bind h
  refine thn (he.run pins s σ H (fun v H' => ∃ g' e' M' sv, Next g H g' H' ∧ Rel G g' σ H' e' M' ∧ SVIs G g' H' σ e' v sv ∧ PostR G W g H σ (EM.pure (.v sv.d) e' M') (fun a e' M' => ∀ (v : V) (H' : Hp) (g' : Gs), Next g H g' H' → Rel G g' σ H' e' M' → PVIs G g' H' σ v a → Q v H')) I ⟨g, e0, M, R, h2.mono fun sv e' M' _ k v H' g' N R' r => ⟨g', e', M', sv, N, R', r, k⟩⟩) fun u s1 hu => ?_
  obtain ⟨v, H1, I1, ru, g1, e1, M1, sv, N1, R1, r1, k⟩ := hu
  cases sv with
  | val d => exact ⟨v, H1, I1, ru, k v H1 g1 N1 R1 r1⟩
  | own o =>
    obtain ⟨H2, I2, N2, R2, s2⟩ := freeze_own I1 R1 r1
    exact ⟨v, H2, I2, ru, k v H2 g1 (N1.trans N2) R2 s2⟩
theorem okUse {e : Expr} {m : EM SV} (he : PEI X G W e m) : PUI X G W e (eUse m) := by
  refine ⟨fun pins s σ H Q I h => ?_⟩
  obtain ⟨g, e0, M, R, h⟩ := h
  have h2 := PostR.bind h
  refine thn (he.run pins s σ H (fun v H' => ∃ g' e' M' sv, Next g H g' H' ∧ Rel G g' σ H' e' M' ∧ SVIs G g' H' σ e' v sv ∧ PostR G W g H σ (EM.pure sv.d e' M') (fun a e' M' => ∀ (v : V) (H' : Hp) (g' : Gs), Next g H g' H' → Rel G g' σ H' e' M' → Is G g' H' a v → Q v H')) I ⟨g, e0, M, R, h2.mono fun sv e' M' _ k v H' g' N R' r => ⟨g', e', M', sv, N, R', r, k⟩⟩) fun u s1 hu => ?_
  obtain ⟨v, H1, I1, ru, g1, e1, M1, sv, N1, R1, r1, k⟩ := hu
  cases sv with
  | val d => exact ⟨v, H1, I1, ru, k v H1 g1 N1 R1 r1⟩
  | own o =>
    obtain ⟨H2, I2, N2, R2, s2⟩ := freeze_own I1 R1 r1
    exact ⟨v, H2, I2, ru, k v H2 g1 (N1.trans N2) R2 s2⟩
/-- what an operand holds: told at the state of the operation -/
theorem now_ok {g : Gs} {σ : St} {H : Hp} {e : Env} {M : MH} {p : PV} {v : V} {k : D → Env → MH → Prop} (R : Rel G g σ H e M) (hp : PVIs G g H σ v p) (h : PostR G W g H σ (p.now e M) k) : ∃ d, k d e M ∧ Vw G g H d v := by
  cases p with
  | v d =>
    cases d with
    | obj n =>
      have hp : Is G g H (.obj n) v := hp
      simp only [Is] at hp
      obtain ⟨a, rfl, hn⟩ := hp
      simp only [PV.now] at h
      cases q : M[n]? with
      | none => rw [q] at h; exact False.elim h
      | some o =>
        rw [q] at h
        exact ⟨o.snap, h, .inr ⟨a, o, rfl, R.ob n a o hn q, rfl⟩⟩
    | _ => exact ⟨_, h, .inl hp⟩
  | sl i =>
    simp only [PV.now] at h
    cases q : e.getD i none with
    | none => rw [q] at h; exact False.elim h
    | some sv =>
      rw [q] at h
      have hp : σ[i]? = some (some v) := hp
      cases sv with
      | val d =>
        obtain ⟨w, e1, r⟩ := R.sl i d (getD_some q)
        rw [hp] at e1
        cases e1
        exact ⟨d, h, .inl r⟩
      | own o =>
        obtain ⟨a, e1, r, _⟩ := R.ow i o (getD_some q)
        rw [hp] at e1
        cases e1
        exact ⟨o.snap, h, .inr ⟨a, o, rfl, r, rfl⟩⟩
end
end PI
/-! PISnd2: operators, tests, arguments, displays. -/
namespace PI
open PySem PySem.Spec PyProof.Rows L2
section
variable (G : Ga)
/-- a new result -/
def NewSV (g : Gs) (H H' : Hp) (v : V) : SV → Prop
  | .val d => Is G g H' d v
  | .own o => ∃ a, v = .ref a ∧ H a = none ∧ OIs G g H' a o
/-- an operator by values, as the layer reads it -/
def rOp2 (f : D → D → Option SV) : R2 := fun x y H Q => ∃ g M d1 d2 r, HRel G g H M ∧ Vw G g H d1 x ∧ Vw G g H d2 y ∧ f d1 d2 = some r ∧ ∀ v H', Grow H H' → NewSV G g H H' v r → Q v H'
def rCm (f : D → D → Option Bool) : R2 := fun x y H Q => ∃ g M d1 d2 r, HRel G g H M ∧ Vw G g H d1 x ∧ Vw G g H d2 y ∧ f d1 d2 = some r ∧ Q (.bl r) H
def VwL (g : Gs) (H : Hp) : List D → List V → Prop
  | [], [] => True
  | d :: ds, v :: vs => Vw G g H d v ∧ VwL g H ds vs
  | _, _ => False
def rB (f : List D → Option SV) : List V → Hp → VK → Prop := fun vs H Q => ∃ g M ds r, HRel G g H M ∧ VwL G g H ds vs ∧ f ds = some r ∧ ∀ v H', Grow H H' → NewSV G g H H' v r → Q v H'
def rM (f : D → List D → Option SV) : V → List V → Hp → VK → Prop := fun x vs H Q => ∃ g M d ds r, HRel G g H M ∧ Vw G g H d x ∧ VwL G g H ds vs ∧ f d ds = some r ∧ ∀ v H', Grow H H' → NewSV G g H H' v r → Q v H'
end
section
variable {G : Ga} {g g' : Gs} {σ : St} {H H' : Hp} {env : Env} {M : MH} {v : V}
theorem NewSV.sv (R : Rel G g σ H env M) (w : Grow H H') {r : SV} (h : NewSV G g H H' v r) : SVIs G g H' σ env v r := by
  cases r with
  | val d => exact h
  | own o =>
    obtain ⟨a, rfl, n, q⟩ := h
    refine ⟨a, rfl, q, fun z => ?_, fun m => ?_, fun i o' h1 h2 => ?_⟩
    · obtain ⟨u, e⟩ := R.ZH a z
      rw [n] at e; cases e
    · obtain ⟨u, e⟩ := R.toHRel.mu m
      rw [n] at e; cases e
    · obtain ⟨b, e, qb, _⟩ := R.ow i o' h1
      rw [h2] at e
      cases e
      obtain ⟨u, e⟩ := qb.some
      rw [n] at e; cases e
theorem PVIs.next (N : Next g H g' H') {p : PV} (h : PVIs G g H σ v p) : PVIs G g' H' σ v p := by
  cases p with
  | v d => exact Is.next (d := d) N h
  | sl i => exact h
theorem PVL.next (N : Next g H g' H') : ∀ {ps : List PV} {vs : List V}, PVL G g H σ ps vs → PVL G g' H' σ ps vs
  | [], [], _ => trivial
  | p :: ps, v :: vs, h => ⟨PVIs.next N h.1, PVL.next N h.2⟩
  | [], _ :: _, h => h
  | _ :: _, [], h => h
end
section
variable {X : Cx} {G : Ga} {W : WX} {a b : Expr} {es : List Expr} {ma mb : EM PV} {pos : Pos}
theorem nowL_ok {g : Gs} {σ : St} {H : Hp} {e : Env} {M : MH} (R : Rel G g σ H e M) : ∀ {ps : List PV} {vs : List V} {k : List D → Env → MH → Prop}, PVL G g H σ ps vs → PostR G W g H σ (nowL ps e M) k → ∃ ds, k ds e M ∧ VwL G g H ds vs
  | [], [], k, _, h => ⟨[], h, trivial⟩
  | p :: ps, v :: vs, k, hp, h => by
    unfold nowL at h
    obtain ⟨d, h2, q⟩ := now_ok R hp.1 (PostR.bind h)
    obtain ⟨ds, h3, q2⟩ := nowL_ok R hp.2 (PostR.bind h2)
    exact ⟨d :: ds, h3, q, q2⟩
  | [], _ :: _, _, h, _ => h.elim
  | _ :: _, [], _, h, _ => h.elim
theorem lift_ok {α : Type} {g : Gs} {σ : St} {H : Hp} {e : Env} {M : MH} {o : Option α} {k : α → Env → MH → Prop} (h : PostR G W g H σ (EM.lift o e M) k) : ∃ r, o = some r ∧ k r e M := by
  cases o with
  | none => exact False.elim h
  | some r => exact ⟨r, rfl, h⟩
/-- two operands, then what is done with them -/
theorem two_ok {α : Type} {f : D → D → EM α} {g : Gs} {σ : St} {H : Hp} {e : Env} {M : MH} {k : α → Env → MH → Prop} {Q2 : V → V → Hp → Prop} (R : Rel G g σ H e M)
    (h : PostR G W g H σ (EM.bind ma (fun x => EM.bind mb fun y => EM.bind x.now fun x => EM.bind y.now fun y => f x y) e M) k)
    (q : ∀ (x y : V) (H2 : Hp) (g2 : Gs) (e2 : Env) (M2 : MH) (d1 d2 : D), Next g H g2 H2 → Rel G g2 σ H2 e2 M2 → Vw G g2 H2 d1 x → Vw G g2 H2 d2 y → PostR G W g2 H2 σ (f d1 d2 e2 M2) k → Q2 x y H2) :
    tP G W ma σ H fun x H1 => tP G W mb σ H1 fun y H2 => Q2 x y H2 := by
  refine ⟨g, e, M, R, (PostR.bind h).mono fun p e1 M1 _ k1 x H1 g1 N1 R1 p1 => ⟨g1, e1, M1, R1, ((PostR.bind k1).from N1).mono fun p2 e2 M2 _ k2 y H2 g2 N2 R2 p2' => ?_⟩⟩
  have k2 := (PostR.from N1 k2).from N2
  obtain ⟨d1, k3, q1⟩ := now_ok R2 (p1.next N2) (PostR.bind k2)
  obtain ⟨d2, k4, q2⟩ := now_ok R2 p2' (PostR.bind k3)
  exact q x y H2 g2 e2 M2 d1 d2 (N1.trans N2) R2 q1 q2 k4
theorem ok2 {op : Operator} {f : D → D → Option SV} (ho : OpR X (binaryOp op) (rOp2 G f)) (ha : PPI X G W a ma) (hb : PPI X G W b mb) : PEI X G W (.BinOp a op b pos) (e2 f ma mb) :=
  PE.imp (pe_op ho ha hb) fun σ H Q ⟨g, e, M, R, h⟩ => two_ok R h fun x y H2 g2 e2 M2 d1 d2 N R2 v1 v2 k => by
    obtain ⟨r, er, k⟩ := lift_ok k
    exact ⟨g2, M2, d1, d2, r, R2.toHRel, v1, v2, er, fun v H' w n => k v H' g2 (N.trans (R2.toHRel.grows w)) (R2.grow w) (n.sv R2 w)⟩
theorem okIx {f : D → D → Option SV} (ho : IxR X (rOp2 G f)) (ha : PPI X G W a ma) (hb : PPI X G W b mb) (hs : PlainIx b := by intro _ _; rfl) : PEI X G W (.Subscript a b pos) (e2 f ma mb) :=
  PE.imp (pe_ix ho ha hb hs) fun σ H Q ⟨g, e, M, R, h⟩ => two_ok R h fun x y H2 g2 e2 M2 d1 d2 N R2 v1 v2 k => by
    obtain ⟨r, er, k⟩ := lift_ok k
    exact ⟨g2, M2, d1, d2, r, R2.toHRel, v1, v2, er, fun v H' w n => k v H' g2 (N.trans (R2.toHRel.grows w)) (R2.grow w) (n.sv R2 w)⟩
/-- a comparison, as a test, as a value -/
theorem okCmT {op : CmpOp} {f : D → D → Option Bool} (ho : OpR X (compareOp op) (rCm G f)) (ha : PPI X G W a ma) (hb : PPI X G W b mb) (hm : behindInMarks op b = false := by first | exact nomark _ | rfl) : PTI X G W (.Compare a [op] [b] pos) (t2 f ma mb) :=
  PT.imp (pt_cmpR ho ha hb hm) fun σ H Q ⟨g, e, M, R, h⟩ => two_ok R h fun x y H2 g2 e2 M2 d1 d2 N R2 v1 v2 k => by
    obtain ⟨r, er, k⟩ := lift_ok k
    exact ⟨g2, M2, d1, d2, r, R2.toHRel, v1, v2, er, r, rfl, k H2 g2 N R2⟩
theorem okCm {op : CmpOp} {f : D → D → Option Bool} (ho : OpR X (compareOp op) (rCm G f)) (ha : PPI X G W a ma) (hb : PPI X G W b mb) (hm : behindInMarks op b = false := by first | exact nomark _ | rfl) : PEI X G W (.Compare a [op] [b] pos) (eBool (t2 f ma mb)) := by
  refine PE.imp (pe_cmpR ho ha hb hm) fun σ H Q ⟨g, e, M, R, h⟩ => two_ok (k := fun r e' M' => ∀ (v : V) (H' : Hp) (g' : Gs), Next g H g' H' → Rel G g' σ H' e' M' → SVIs G g' H' σ e' v (.val (.bl r)) → Q v H') R ((PostR.bind h).mono fun _ _ _ _ k => k) fun x y H2 g2 e2 M2 d1 d2 N R2 v1 v2 k => ?_
  obtain ⟨r, er, k⟩ := lift_ok k
  exact ⟨g2, M2, d1, d2, r, R2.toHRel, v1, v2, er, k (.bl r) H2 g2 N R2 rfl⟩
/-! ### tests -/
abbrev PWI (X : Cx) (G : Ga) (W : WX) (e : Expr) (m : EM Bool) : Prop := PW X e (tT G W m)
variable {ta tb : EM Bool} {rest : List Expr}
theorem okOr1 (ha : PTI X G W a ta) : PWI X G W (.BoolOp .Or [a] pos) ta := pw_or1 ha
theorem okOr (ha : PTI X G W a ta) (hb : PWI X G W (.BoolOp .Or (b :: rest) pos) tb) : PWI X G W (.BoolOp .Or (a :: b :: rest) pos) (PI.tOr ta tb) :=
  PW.imp (pw_or ha hb) fun σ H Q ⟨g, e, M, R, h⟩ => ⟨g, e, M, R, (PostR.bind h).mono fun x e1 M1 _ k H1 g1 N1 R1 => by
    cases x with
    | false => exact ⟨g1, e1, M1, R1, (k.from N1).mono fun y e2 M2 _ k2 H2 g2 N2 R2 => k2 H2 g2 (N1.trans N2) R2⟩
    | true => exact k H1 g1 N1 R1⟩
theorem okW {e : Expr} (h : PWI X G W e ta) : PTI X G W e ta := h.pt
theorem okNot (ha : PTI X G W a ta) : PTI X G W (.UnaryOp .Not a pos) (PI.tNot ta) :=
  PT.imp (pt_not ha) fun σ H Q ⟨g, e, M, R, h⟩ => ⟨g, e, M, R, (PostR.bind h).mono fun x e1 M1 _ k H1 g1 N1 R1 => k H1 g1 N1 R1⟩
theorem tru_of {g : Gs} {H : Hp} {M : MH} {d : D} {v : V} {k : Bool} (hK : X.K = G.K) (h : Vw G g H d v) (e : truthy d = some k) (nd : ∀ kvs, d ≠ .dic kvs) : TruV X.K v H k := by
  rcases h with h | ⟨a, o, rfl, h, rfl⟩
  · cases d with
    | non => simp only [Is] at h; subst h; exact (Option.some.inj e).symm
    | bl b => simp only [Is] at h; subst h; exact (Option.some.inj e).symm
    | int i => simp only [Is] at h; subst h; exact (Option.some.inj e).symm
    | str cs =>
      simp only [Is] at h
      obtain ⟨rfl, hl⟩ := h
      have e := (Option.some.inj e).symm
      refine ⟨by simpa [Str.length] using hl, ?_⟩
      rw [e]
      have el : (Str.length ⟨cs.toArray⟩) = cs.length := by simp [Str.length]
      rw [el]
      cases cs with
      | nil => rfl
      | cons c r =>
        have h2 : ((c :: r).length : Int) ≠ 0 := by simp only [List.length_cons]; omega
        have h3 : (c :: r).length ≠ 0 := by simp
        rw [bne_iff_ne.mpr h2, bne_iff_ne.mpr h3]
    | tup xs =>
      simp only [Is] at h
      obtain ⟨p, vs, rfl, q, r⟩ := h
      refine .inr (.inl ⟨vs, by rw [hK]; exact q.t, ?_⟩)
      rw [← Option.some.inj e]
      have := IsL.length r
      cases xs <;> cases vs <;> simp at this ⊢
    | tupw xs =>
      simp only [Is] at h
      obtain ⟨p, vs, rfl, q, r⟩ := h
      refine .inr (.inl ⟨vs, .inl (.inl q), ?_⟩)
      rw [← Option.some.inj e]
      have := IsL.length r
      cases xs <;> cases vs <;> simp at this ⊢
    | lst xs =>
      simp only [Is] at h
      obtain ⟨p, vs, rfl, q, r⟩ := h
      refine .inl ⟨vs, by rw [hK]; exact q.sq, ?_⟩
      rw [← Option.some.inj e]
      have := IsL.length r
      cases xs <;> cases vs <;> simp at this ⊢
    | dic kvs => exact absurd rfl (nd kvs)
    | _ => cases e
  · cases o with
    | lst xs =>
      obtain ⟨vs, q, r⟩ := h
      refine .inl ⟨vs, .inl (.inl q), ?_⟩
      rw [← Option.some.inj e]
      have := IsL.length r
      cases xs <;> cases vs <;> simp at this ⊢
    | dic kvs => exact absurd rfl (nd kvs)
    | ins c fs => cases e
theorem okTru (hK : X.K = G.K) (ha : PPI X G W a ma) (he : ∀ whole, isTrue a X.env whole = (do let v ← whole; standAt a.pos; holding [v] (PySem.truthy v)) := by intro _; rfl) : PTI X G W a (tTruN ma) :=
  PT.imp (pt_truth ha he) fun σ H Q ⟨g, e, M, R, h⟩ => ⟨g, e, M, R, (PostR.bind h).mono fun p e1 M1 _ k1 x H1 g1 N1 R1 p1 => by
    obtain ⟨d1, k3, q1⟩ := now_ok R1 p1 (PostR.bind (k1.from N1))
    obtain ⟨r, er, k4⟩ := lift_ok k3
    refine ⟨r, tru_of (M := M1) hK q1 (k := r) ?_ ?_, k4 H1 g1 N1 R1⟩
    · cases d1 <;> first | exact er | cases er
    · intro kvs z
      rw [z] at er
      cases er⟩
theorem okIte {c : Expr} {mx my : EM SV} (hc : PTI X G W c ta) (ha : PEI X G W a mx) (hb : PEI X G W b my) : PEI X G W (.IfExp c a b pos) (eIte ta mx my) :=
  PE.imp (pe_ifExp hc ha hb) fun σ H Q ⟨g, e, M, R, h⟩ => ⟨g, e, M, R, (PostR.bind h).mono fun x e1 M1 _ k H1 g1 N1 R1 => by
    cases x with
    | true => exact ⟨g1, e1, M1, R1, (k.from N1).mono fun y e2 M2 _ k2 v H2 g2 N2 R2 r => k2 v H2 g2 (N1.trans N2) R2 r⟩
    | false => exact ⟨g1, e1, M1, R1, (k.from N1).mono fun y e2 M2 _ k2 v H2 g2 N2 R2 r => k2 v H2 g2 (N1.trans N2) R2 r⟩⟩
/-! and, or, not as values -/
theorem okOneV {op} {m : EM SV} (h : PEI X G W a m) : PEI X G W (.BoolOp op [a] pos) m := pe_one h
theorem okAndV {mx my : EM SV} (ha : PEI X G W a mx) (hb : PEI X G W (.BoolOp .And (b :: rest) pos) my) : PEI X G W (.BoolOp .And (a :: b :: rest) pos) (eAndV mx my) :=
  PE.imp (pe_and ha hb) fun σ H Q ⟨g, e, M, R, h⟩ => ⟨g, e, M, R, (PostR.bind h).mono fun s e1 M1 _ k v H1 g1 N1 R1 r => by
    match s, k, r with
    | .val (.bl true), k, r => exact ⟨true, r, ⟨g1, e1, M1, R1, (k.from N1).mono fun y e2 M2 _ k2 v H2 g2 N2 R2 r => k2 v H2 g2 (N1.trans N2) R2 r⟩⟩
    | .val (.bl false), k, r => exact ⟨false, r, k (.bl false) H1 g1 N1 R1 rfl⟩⟩
theorem okNotV {mx : EM SV} (ha : PEI X G W a mx) : PEI X G W (.UnaryOp .Not a pos) (eNotV mx) :=
  PE.imp (pe_not ha) fun σ H Q ⟨g, e, M, R, h⟩ => ⟨g, e, M, R, (PostR.bind h).mono fun s e1 M1 _ k v H1 g1 N1 R1 r => by
    match s, k, r with
    | .val (.bl b), k, r => exact ⟨b, r, k (.bl (!b)) H1 g1 N1 R1 rfl⟩⟩
/-! ### arguments, displays -/
theorem okANil : PAI X G W [] eNil := PA.imp pa_nil fun σ H Q ⟨g, e, M, R, h⟩ => h [] H g (Next.refl _ _) R (by simp only [IsL])
theorem okACons {m : EM D} {mr : EM (List D)} (ha : PUI X G W a m) (hr : PAI X G W es mr) (hs : starEach (a :: es) X.env = (false, eval a X.env) :: starEach es X.env := by rfl) : PAI X G W (a :: es) (eCons m mr) :=
  PA.imp (pa_cons ha hr hs) fun σ H Q ⟨g, e, M, R, h⟩ => ⟨g, e, M, R, (PostR.bind h).mono fun d e1 M1 _ k v H1 g1 N1 R1 r => ⟨g1, e1, M1, R1, ((PostR.bind k).from N1).mono fun ds e2 M2 _ k2 vs H2 g2 N2 R2 r2 => k2 (v :: vs) H2 g2 (N1.trans N2) R2 (by
    simp only [IsL]
    exact ⟨r.next N2, r2⟩)⟩⟩
theorem okAPNil : PAPI X G W [] eNil := PA.imp pa_nil fun σ H Q ⟨g, e, M, R, h⟩ => h [] H g (Next.refl _ _) R trivial
theorem okAPCons {m : EM PV} {mr : EM (List PV)} (ha : PPI X G W a m) (hr : PAPI X G W es mr) (hs : starEach (a :: es) X.env = (false, eval a X.env) :: starEach es X.env := by rfl) : PAPI X G W (a :: es) (eCons m mr) :=
  PA.imp (pa_cons ha hr hs) fun σ H Q ⟨g, e, M, R, h⟩ => ⟨g, e, M, R, (PostR.bind h).mono fun d e1 M1 _ k v H1 g1 N1 R1 r => ⟨g1, e1, M1, R1, ((PostR.bind k).from N1).mono fun ds e2 M2 _ k2 vs H2 g2 N2 R2 r2 => k2 (v :: vs) H2 g2 (N1.trans N2) R2 ⟨r.next N2, r2⟩⟩⟩
/-- a new tuple, all of it known -/
theorem pe_tupS {x1} {t : TA} (h : PA X es t) : PE X (.Tuple es x1 pos) (fun σ H Q => t σ H fun xs H1 => xs.length ≤ sizeLine ∧ ∀ p o, H1 p = none → o.dict = none → Q (.ref p) (upd H1 p (.frz o (.tup xs)))) := by
  refine ⟨fun pins s σ H Q I hq => ?_⟩
  refine wpAny_Tuple_spliced (thn (h.run pos pins s σ H _ I hq) fun us s1 ⟨xs, H1, I1, r, z, q⟩ => ⟨by rw [← r.length]; exact z, ?_⟩)
  have hf : H1 s1.heap.objs.size = none := I1.hok.fresh (Nat.le_refl _)
  refine ⟨.ref s1.heap.objs.size, upd H1 s1.heap.objs.size (.frz _ (.tup xs)), I1.laid (t' := s1.toks) (fun b u e => Heap.get?_push_of_some _ e) (Nat.le_refl _) ⟨Heap.get?_push_size _ rfl, z, us, r, ⟨_, Heap.get?_push_size _ rfl, rfl, _, rfl⟩⟩, rfl, q _ _ hf rfl⟩
theorem okTup {x1} {m : EM (List D)} (h : PAI X G W es m) : PEI X G W (.Tuple es x1 pos) (eTup m) :=
  PE.imp (pe_tupS h) fun σ H Q ⟨g, e, M, R, hh⟩ => ⟨g, e, M, R, (PostR.bind hh).mono fun ds e1 M1 _ k vs H1 g1 N1 R1 r => by
    by_cases hl : ds.length ≤ 1000
    · rw [if_pos hl] at k
      refine ⟨by rw [← IsL.length r, sizeLine_eq]; omega, fun p o hp hd => ?_⟩
      have w : Grow H1 (upd H1 p (.frz o (.tup vs))) := Grow.upd hp
      exact k (.ref p) _ g1 (N1.trans (R1.toHRel.grows w)) (R1.grow w) (by
        show Is G g1 _ (.tup ds) (.ref p)
        simp only [Is]
        exact ⟨p, vs, rfl, .inl ⟨o, upd_same, hd⟩, r.next (R1.toHRel.grows w)⟩)
    · rw [if_neg hl] at k
      exact False.elim k⟩
theorem okLst {m : EM (List D)} (h : PAI X G W es m) : PEI X G W (.List es pos) (eLst m) :=
  PE.imp (pe_lst h) fun σ H Q ⟨g, e, M, R, hh⟩ => ⟨g, e, M, R, (PostR.bind hh).mono fun ds e1 M1 _ k vs H1 g1 N1 R1 r => by
    by_cases hl : ds.length ≤ 1000
    · rw [if_pos hl] at k
      refine ⟨by rw [← IsL.length r, sizeLine_eq]; omega, fun p hp => ?_⟩
      have w : Grow H1 (upd H1 p (.lst vs)) := Grow.upd hp
      exact k (.ref p) _ g1 (N1.trans (R1.toHRel.grows w)) (R1.grow w) (NewSV.sv (r := .own (.lst ds)) R1 w ⟨p, rfl, hp, vs, upd_same, r.next (R1.toHRel.grows w)⟩)
    · rw [if_neg hl] at k
      exact False.elim k⟩
/-! ### built-ins, methods of built-in types -/
theorem okB {x : Str} {id : String} {f : List D → Option SV} {m : EM (List PV)} {p : Pos} {e : Expr} (hc : CallR X (.builtin id) (rB G f)) (hm : X.mg x = none) (hv : bootBuiltins x = some (.builtin id)) (ha : PAPI X G W (e :: es) m) (hg : Gl X x := by rfl)
    (hn : x ≠ "__name__" := by decide) (hdb : (x == ("__debug__" : Str)) = false := by decide) (hs : starEach (e :: es) X.env = (false, eval e X.env) :: starEach es X.env := by rfl) (hpl : (backTo pos (starEach es X.env)).any (·.1) = false := by rfl) :
    PEI X G W (.Call (.Name x p) (e :: es) [] pos) (eB f m) := by
  refine PE.imp (pe_callB hc hg hm hv ha hn hdb hs hpl) fun σ H Q ⟨g, e, M, R, h⟩ => ⟨g, e, M, R, (PostR.bind h).mono fun ps e1 M1 _ k vs H1 g1 N1 R1 r => ?_⟩
  obtain ⟨ds, k2, w⟩ := nowL_ok R1 r (PostR.bind (k.from N1))
  obtain ⟨rr, er, k3⟩ := lift_ok k2
  exact ⟨g1, M1, ds, rr, R1.toHRel, w, er, fun v H' w n => k3 v H' g1 (N1.trans (R1.toHRel.grows w)) (R1.grow w) (n.sv R1 w)⟩
end
end PI
/-! PISnd3: targets, statements, loops. -/
namespace PI
open PySem PySem.Spec PyProof.Rows L2
section
variable {G : Ga} {g g' : Gs} {σ : St} {H H' : Hp} {env : Env} {M : MH} {W : WX} {Ds : Ends}
theorem PostS.from (N : Next g H g' H') {r : Res Fl} (h : PostS G W g H Ds r) : PostS G W g' H' Ds r := by
  cases r with
  | ok f e m => cases f with
    | nx => exact fun σ2 H2 g2 N2 => h σ2 H2 g2 (N.trans N2)
    | bk => exact fun σ2 H2 g2 N2 => h σ2 H2 g2 (N.trans N2)
    | ct => exact fun σ2 H2 g2 N2 => h σ2 H2 g2 (N.trans N2)
    | ret s => exact fun v H2 g2 N2 => h v H2 g2 (N.trans N2)
  | err x e m => exact fun σ2 H2 g2 cls d N2 => h σ2 H2 g2 cls d (N.trans N2)
  | stuck => exact h
/-- an expression first, then the rest of the statement -/
theorem PostS.bind {α : Type} {r : Res α} {f : α → EM Fl} (h : PostS G W g H Ds (r.bind f)) : PostR G W g H σ r fun a e m => PostS G W g H Ds (f a e m) := by
  cases r with
  | ok a e m => exact h
  | err x e m => exact fun H2 g2 cls d N2 R2 q => h σ H2 g2 cls d N2 R2 q
  | stuck => exact h
theorem SVIs.loose {e : Env} {v : V} {s : SV} (h : SVIs G g H σ e v s) : SVIs G g H [] [] v s := by
  cases s with
  | val d => exact h
  | own o =>
    obtain ⟨a, e, q, z, m, _⟩ := h
    exact ⟨a, e, q, z, m, fun i o' h => by simp at h⟩
/-- a slot is stored -/
theorem Rel.put {i : Nat} {v : V} {s : SV} (R : Rel G g σ H env M) (hi : i < σ.length) (h : SVIs G g H σ env v s) : Rel G g (σ.set i (some v)) H (setS env i s) M := by
  have ie : i < env.length := by rw [R.el]; exact hi
  have aux : ∀ {j : Nat} {w : SV}, (env.set i (some s))[j]? = some (some w) → (j = i ∧ w = s) ∨ (j ≠ i ∧ env[j]? = some (some w)) := fun {j w} h1 => by
    by_cases hj : i = j
    · subst hj
      rw [List.getElem?_set_self ie] at h1
      cases h1
      exact .inl ⟨rfl, rfl⟩
    · rw [List.getElem?_set_ne hj] at h1
      exact .inr ⟨fun z => hj z.symm, h1⟩
  refine ⟨R.toHRel, by unfold setS; rw [List.length_set, List.length_set]; exact R.el, fun j d h1 => ?_, fun j o h1 => ?_, fun j k b o o' h1 h2 h3 h4 => ?_⟩
  · rcases aux h1 with ⟨rfl, e⟩ | ⟨hj, h1⟩
    · subst e
      exact ⟨v, List.getElem?_set_self hi, h⟩
    · obtain ⟨w, e1, r⟩ := R.sl j d h1
      exact ⟨w, by rw [List.getElem?_set_ne (Ne.symm hj)]; exact e1, r⟩
  · rcases aux h1 with ⟨rfl, e⟩ | ⟨hj, h1⟩
    · subst e
      obtain ⟨a, rfl, q, z, m, _⟩ := h
      exact ⟨a, List.getElem?_set_self hi, q, z, m⟩
    · obtain ⟨a, e1, r⟩ := R.ow j o h1
      exact ⟨a, by rw [List.getElem?_set_ne (Ne.symm hj)]; exact e1, r⟩
  · rcases aux h1 with ⟨rfl, e⟩ | ⟨hj, q1⟩
    · rcases aux h2 with ⟨rfl, e'⟩ | ⟨hk, q2⟩
      · rfl
      · subst e
        obtain ⟨a, rfl, q, z, m, ns⟩ := h
        rw [List.getElem?_set_self hi] at h3
        cases h3
        rw [List.getElem?_set_ne (Ne.symm hk)] at h4
        exact absurd h4 (ns k o' q2)
    · rcases aux h2 with ⟨rfl, e'⟩ | ⟨hk, q2⟩
      · subst e'
        obtain ⟨a, rfl, q, z, m, ns⟩ := h
        rw [List.getElem?_set_self hi] at h4
        cases h4
        rw [List.getElem?_set_ne (Ne.symm hj)] at h3
        exact absurd h3 (ns j o q1)
      · rw [List.getElem?_set_ne (Ne.symm hj)] at h3
        rw [List.getElem?_set_ne (Ne.symm hk)] at h4
        exact R.di j k b o o' q1 q2 h3 h4
end
section
variable {X : Cx} {G : Ga} {W : WX} {pos : Pos} {a e : Expr} {st : Stmt} {sts : List Stmt} {k : Nat}
theorem idx_lt {i : Nat} {x : Str} {pins : List (Addr × Obj)} {σ : St} {H : Hp} {s : Shared} (I : Inv X pins σ H s) (hN : X.N[i]? = some x) : i < σ.length := by
  rw [I.len]
  exact (List.getElem?_eq_some_iff.mp hN).1
/-! ### targets -/
theorem okGNm (c : XJ X G W) (i : Nat) {x : Str} (hi : X.N[i]? = some x := by rfl) (hx : Loc X.env.scope x := by first | exact Or.inl rfl | exact Or.inr rfl) (hf : X.fn x = true ∨ X.env.scope.names.lookup x = some .local := by first | exact .inl rfl | exact .inr rfl) : PGI X G (.Name x pos) (gNm i) [i] := by
  refine ⟨fun pins s σ H v u Q I r h => ?_⟩
  obtain ⟨g, e, M, d, e', R, q, ht, h⟩ := h
  cases ht
  exact (pg_name c.nd hi hx hf).run pins s σ H v u Q I r (h _ H g (Next.refl _ _) (R.put (s := .val d) (idx_lt I hi) q) ⟨List.length_set, fun j hj => List.getElem?_set_ne fun z => hj (by simp [z])⟩)
theorem okGNil : PGsI X G [] [] [] := PGs.imp pgs_nil fun vs σ H Q ⟨g, e, M, ds, e', R, q, ht, h⟩ => by
  cases ds with
  | nil => cases vs with
    | nil =>
      cases ht
      exact ⟨rfl, h σ H g (Next.refl _ _) R ⟨rfl, fun _ _ => rfl⟩⟩
    | cons v vs => simp only [IsL] at q
  | cons d ds => cases ht
theorem okGCons {t : PI.TG} {ts : List PI.TG} {es : List Expr} {is js : List Nat} (h1 : PGI X G e t is) (h2 : PGsI X G es ts js) (hs : (assignEach (e :: es) X.env).map (·.2) = assign e X.env :: (assignEach es X.env).map (·.2) := by rfl) : PGsI X G (e :: es) (t :: ts) (is ++ js) :=
  PGs.imp (pgs_cons h1 h2 hs) fun vs σ H Q ⟨g, e0, M, ds, e', R, q, ht, h⟩ => by
    cases ds with
    | nil => cases ht
    | cons d ds => cases vs with
      | nil => simp only [IsL] at q
      | cons v vs =>
        simp only [IsL] at q
        unfold gGo at ht
        obtain ⟨e1, t1, t2⟩ := Option.bind_eq_some_iff.mp ht
        exact ⟨v, vs, rfl, g, e0, M, d, e1, R, q.1, t1, fun σ1 H1 g1 N1 R1 o1 => ⟨g1, e1, M, ds, e', R1, q.2.next N1, t2, fun σ2 H2 g2 N2 R2 o2 => h σ2 H2 g2 (N1.trans N2) R2 ⟨o2.1.trans o1.1, fun j hj => (o2.2 j fun z => hj (List.mem_append_right _ z)).trans (o1.2 j fun z => hj (List.mem_append_left _ z))⟩⟩⟩
theorem gGo_len : ∀ {ts : List PI.TG} {ds : List D} {e e' : Env}, gGo ts ds e = some e' → ds.length = ts.length
  | [], [], _, _, _ => rfl
  | [], _ :: _, _, _, h => by cases h
  | _ :: _, [], _, _, h => by cases h
  | t :: ts, d :: ds, e, e', h => by
    unfold gGo at h
    obtain ⟨e1, t1, t2⟩ := Option.bind_eq_some_iff.mp h
    exact congrArg Nat.succ (gGo_len t2)
theorem okGTup (c : XI X G W k) {ts : List PI.TG} {es : List Expr} {kk n : Nat} {is : List Nat} (h : PGsI X G es ts is) (hn : (assignEach es X.env).length = n := by rfl) (hst : (assignEach es X.env).findIdx? (·.1) = none := by rfl) (hl : ts.length = n := by rfl) : PGI X G (.Tuple es kk pos) (gTup ts) is :=
  PG.imp (pg_tup (n := n) c.calm h hn hst) fun v σ H Q ⟨g, e, M, d, e', R, q, ht, h⟩ => by
    cases d with
    | tup ds =>
      simp only [Is] at q
      obtain ⟨b, vs, rfl, q, r⟩ := q
      exact ⟨b, vs, rfl, by rw [c.K]; exact q.t, by rw [← IsL.length r, gGo_len ht]; exact hl, g, e, M, ds, e', R, r, ht, h⟩
    | tupw ds =>
      simp only [Is] at q
      obtain ⟨b, vs, rfl, q, r⟩ := q
      exact ⟨b, vs, rfl, .inl (.inl q), by rw [← IsL.length r, gGo_len ht]; exact hl, g, e, M, ds, e', R, r, ht, h⟩
    | _ => cases ht
/-! ### statements -/
theorem okSet (c : XJ X G W) (i : Nat) {x : Str} {pos' : Pos} {m : EM SV} (he : PEI X G W e m) (hi : X.N[i]? = some x := by rfl) (hx : Loc X.env.scope x := by first | exact Or.inl rfl | exact Or.inr rfl)
    (hs : swapsWith e (some (.Name x pos')) pos.line X.env = pure false := by rfl) (hf : X.fn x = true ∨ X.env.scope.names.lookup x = some .local := by first | exact .inl rfl | exact .inr rfl) : PSI X G W (.Assign [.Name x pos'] e pos) (sSet i m) := by
  refine ⟨fun pins s σ H D I h => ?_⟩
  obtain ⟨g, e0, M, R, h⟩ := h
  exact (ps_set c.nd hi hx he hs hf).run pins s σ H D I ⟨g, e0, M, R, (PostS.bind h).mono fun sv e1 M1 _ k1 v H1 g1 N1 R1 r => k1 _ H1 g1 N1 (R1.put (idx_lt I hi) r)⟩
theorem okAsg {tg : Expr} {t : PI.TG} {m : EM SV} {is : List Nat} (he : PEI X G W e m) (hg : PGI X G tg t is) (hs : swapsWithSole [tg] e pos.line X.env = pure false := by rfl) (hw : swappedStores [tg] e X.env = pure none := by rfl)
    (h1 : (assignEach [tg] X.env).map (·.2) = [assign tg X.env] := by rfl) : PSI X G W (.Assign [tg] e pos) (sAsg t m) := by
  have he2 := okUse he
  refine PS.imp (ps_asg he2 hg hs hw h1) fun D σ H ⟨g, e0, M, R, h⟩ => ⟨g, e0, M, R, ?_⟩
  have h2 := PostS.bind (σ := σ) h
  have : PostR G W g H σ (eUse m e0 M) fun d e' M' => PostS G W g H D (EM.bind (TG.em t d) (fun _ => EM.pure .nx) e' M') := by
    unfold eUse
    simp only [bind_ap]
    cases hm : m e0 M with
    | ok sv e1 M1 => rw [hm] at h2; exact h2
    | err x e1 M1 => rw [hm] at h2; exact h2
    | stuck => rw [hm] at h2; exact h2
  refine this.mono fun d e1 M1 _ k1 v H1 g1 N1 R1 r => ?_
  simp only [bind_ap, TG.em] at k1
  cases ht : t d e1 with
  | some e2 =>
    rw [ht] at k1
    exact ⟨g1, e1, M1, d, e2, R1, r, ht, fun σ2 H2 g2 N2 R2 _ => k1 σ2 H2 g2 (N1.trans N2) R2⟩
  | none => rw [ht] at k1; exact False.elim k1
theorem okExp {m : EM SV} (he : PEI X G W e m) (hs : swapsWith e none pos.line X.env = pure false := by rfl) : PSI X G W (.Expr e pos) (sExp m) :=
  PS.imp (ps_expr he hs) fun D σ H ⟨g, e0, M, R, h⟩ => ⟨g, e0, M, R, (PostS.bind h).mono fun sv e1 M1 _ k1 v H1 g1 N1 R1 r => k1 σ H1 g1 N1 R1⟩
theorem okRet {m : EM SV} (he : PEI X G W e m) : PSI X G W (.Return (some e) pos) (sRet m) :=
  PS.imp (ps_ret he) fun D σ H ⟨g, e0, M, R, h⟩ => ⟨g, e0, M, R, (PostS.bind h).mono fun sv e1 M1 _ k1 v H1 g1 N1 R1 r => k1 v H1 g1 N1 R1.toHRel r.loose⟩
theorem okNil : PSsI X G W [] sPass := PSs.imp pss_nil fun D σ H ⟨g, e0, M, R, h⟩ => h σ H g (Next.refl _ _) R
theorem okOne {m : EM Fl} (h : PSI X G W st m) : PSsI X G W [st] m := pss_one h
theorem okSeq {m n : EM Fl} (h1 : PSI X G W st m) (h2 : PSsI X G W sts n) : PSsI X G W (st :: sts) (sSeq m n) :=
  PSs.imp (pss_cons h1 h2) fun D σ H ⟨g, e0, M, R, h⟩ => ⟨g, e0, M, R, by
    simp only [sSeq, bind_ap] at h
    cases hm : m e0 M with
    | ok f e1 M1 =>
      rw [hm] at h
      cases f with
      | nx => exact fun σ1 H1 g1 N1 R1 => ⟨g1, e1, M1, R1, PostS.from N1 h⟩
      | bk => exact h
      | ct => exact h
      | ret s => exact h
    | err x e1 M1 => rw [hm] at h; exact h
    | stuck => rw [hm] at h; exact h⟩
theorem okIf {cnd : Expr} {sa sb : List Stmt} {t : EM Bool} {m n : EM Fl} (hc : PTI X G W cnd t) (ha : PSsI X G W sa m) (hb : PSsI X G W sb n) : PSI X G W (.If cnd sa sb pos) (sIf t m n) :=
  PS.imp (ps_if hc ha hb) fun D σ H ⟨g, e0, M, R, h⟩ => ⟨g, e0, M, R, (PostS.bind h).mono fun b e1 M1 _ k1 H1 g1 N1 R1 => by
    cases b with
    | true => exact ⟨g1, e1, M1, R1, PostS.from N1 k1⟩
    | false => exact ⟨g1, e1, M1, R1, PostS.from N1 k1⟩⟩
theorem okFor (c : XI X G W k) {tg iter : Expr} {body : List Stmt} {t : PI.TG} {it : EM (List D)} {m : EM Fl} {is : List Nat} (hi : PII X G W tg iter it) (hg : PGI X G tg t is) (hb : PSsI X G W body m)
    (hs : ∀ x, foldedSetIterable iter X.env x = pure x := by intro _; rfl) : PSI X G W (.For tg iter body [] pos) (sFor t it m) :=
  PS.imp (ps_for c.po c.calm hi hg hb hs) fun D σ H ⟨g, e0, M, R, h⟩ => ⟨g, e0, M, R, (PostS.bind h).mono fun ds e1 M1 _ k1 J H1 g1 N1 R1 J1 _ => by
    refine ⟨fun i mm σ2 H2 => mm = ds.length - i ∧ i ≤ ds.length ∧ ∃ g2 e2 M2, Next g1 H1 g2 H2 ∧ Rel G g2 σ2 H2 e2 M2 ∧ PostS G W g2 H2 D (sForGo t m (ds.drop i) e2 M2), ⟨ds.length, by simp, Nat.zero_le _, g1, e1, M1, Next.refl _ _, R1, by rw [List.drop_zero]; exact PostS.from N1 k1⟩, ?_⟩
    rintro i mm σ2 H2 ⟨rfl, hle, g2, e2, M2, N2, R2, p⟩
    by_cases hlt : i < ds.length
    · obtain ⟨j1, j2⟩ := (J1 i g2 H2 N2).1 ds[i] (List.getElem?_eq_getElem hlt)
      have ed : ds.drop i = ds[i] :: ds.drop (i + 1) := List.drop_eq_getElem_cons hlt
      rw [ed] at p
      simp only [sForGo, bind_ap] at p
      refine .inr ⟨j1, fun σ' H' => ∃ g' e' M', Next g1 H1 g' H' ∧ Rel G g' σ' H' e' M' ∧ PostS G W g' H' D (sForGo t m (ds.drop (i + 1)) e' M'), fun σ' H' ⟨g', e', M', a1, a2, a3⟩ => ⟨ds.length - (i + 1), by omega, rfl, hlt, g', e', M', a1, a2, a3⟩, fun x H3 y => ?_⟩
      obtain ⟨w3, q3⟩ := j2 x H3 y
      have N3 := R2.toHRel.grows w3
      have p := PostS.from N3 p
      cases ht : t ds[i] e2 with
      | none => simp only [TG.em, ht] at p; exact False.elim p
      | some e4 =>
        simp only [TG.em, ht] at p
        refine ⟨g2, e2, M2, ds[i], e4, R2.grow w3, q3, ht, fun σ4 H4 g4 N4 R4 _ => ⟨g4, e4, M2, R4, ?_⟩⟩
        have p : PostS G W g2 H3 D ((m e4 M2).bind _) := p
        have p := PostS.from N4 p
        have NN := (N2.trans N3).trans N4
        cases hm : m e4 M2 with
        | ok f e5 M5 =>
          rw [hm] at p
          simp only [bind_ok] at p
          cases f with
          | nx => exact fun σ5 H5 g5 N5 R5 => ⟨g5, e5, M5, NN.trans N5, R5, PostS.from N5 p⟩
          | ct => exact fun σ5 H5 g5 N5 R5 => ⟨g5, e5, M5, NN.trans N5, R5, PostS.from N5 p⟩
          | bk => exact p
          | ret s => exact p
        | err x e5 M5 => rw [hm] at p; exact p
        | stuck => rw [hm] at p; exact p
    · have e : i = ds.length := by omega
      subst e
      rw [List.drop_length] at p
      exact .inl ⟨(J1 _ g2 H2 N2).2 (Nat.le_refl _), p σ2 H2 g2 (Next.refl _ _) R2⟩⟩
end
end PI
/-! PISnd4: comprehensions; what loops walk. -/
namespace PI
open PySem PySem.Spec PyProof.Rows L2
theorem wipeE_len : ∀ (vs : List Nat) (e : Env), (wipeE vs e).length = e.length
  | [], _ => rfl
  | v :: vs, e => by unfold wipeE; rw [List.length_set, wipeE_len vs e]
theorem backE_len : ∀ (vs : List Nat) (e0 e : Env), (backE vs e0 e).length = e.length
  | [], _, _ => rfl
  | v :: vs, e0, e => by unfold backE; rw [List.length_set, backE_len vs e0 e]
theorem wipeE_out : ∀ {vs : List Nat} {e : Env} {i : Nat}, i ∉ vs → (wipeE vs e)[i]? = e[i]?
  | [], _, _, _ => rfl
  | v :: vs, e, i, h => by
    simp only [List.mem_cons, not_or] at h
    unfold wipeE
    rw [List.getElem?_set_ne (Ne.symm h.1)]
    exact wipeE_out h.2
theorem backE_out : ∀ {vs : List Nat} {e0 e : Env} {i : Nat}, i ∉ vs → (backE vs e0 e)[i]? = e[i]?
  | [], _, _, _, _ => rfl
  | v :: vs, e0, e, i, h => by
    simp only [List.mem_cons, not_or] at h
    unfold backE
    rw [List.getElem?_set_ne (Ne.symm h.1)]
    exact backE_out h.2
theorem backE_in : ∀ {vs : List Nat} {e0 e : Env} {i : Nat} {s : SV}, i ∈ vs → (backE vs e0 e)[i]? = some (some s) → e0.getD i none = some s
  | v :: vs, e0, e, i, s, h, q => by
    unfold backE at q
    by_cases hv : v = i
    · subst hv
      by_cases hl : v < (backE vs e0 e).length
      · rw [List.getElem?_set_self hl] at q
        exact Option.some.inj q
      · rw [List.getElem?_eq_none (by simpa using hl)] at q
        cases q
    · rw [List.getElem?_set_ne hv] at q
      exact backE_in ((List.mem_cons.mp h).resolve_left fun z => hv z.symm) q
theorem okOwn_at {own : List Nat} {e : Env} {i : Nat} {o : MO} (h : okOwn own e = true) (hi : i ∈ own) : e.getD i none ≠ some (.own o) := fun z => by
  have := List.all_eq_true.mp h i hi
  rw [z] at this
  cases this
theorem wipe_eq {σ σ2 : St} {vs is : List Nat} (hs : ∀ i ∈ is, i ∈ vs) (o : Only1 is (wipe σ vs) σ2) : wipe σ2 vs = wipe σ vs := by
  apply List.ext_getElem?
  intro j
  by_cases hj : j ∈ vs
  · -- both none
    have aux : ∀ {τ τ' : St} {vs : List Nat}, τ.length = τ'.length → j ∈ vs → (wipe τ vs)[j]? = (wipe τ' vs)[j]? := by
      intro τ τ' vs hl
      induction vs with
      | nil => intro h; cases h
      | cons v vs ih =>
        intro h
        unfold wipe
        by_cases hv : v = j
        · subst hv
          have l1 := wipe_length τ vs
          have l2 := wipe_length τ' vs
          by_cases hl' : v < τ.length
          · rw [List.getElem?_set_self (by rw [l1]; exact hl'), List.getElem?_set_self (by rw [l2, ← hl]; exact hl')]
          · rw [List.getElem?_eq_none (by rw [List.length_set, l1]; omega), List.getElem?_eq_none (by rw [List.length_set, l2]; omega)]
        · rw [List.getElem?_set_ne hv, List.getElem?_set_ne hv]
          exact ih ((List.mem_cons.mp h).resolve_left fun z => hv z.symm)
    exact aux (by rw [o.1, wipe_length]) hj
  · rw [wipe_out hj, o.2 j fun z => hj (hs j z)]
section
variable {G : Ga} {g g' : Gs} {σ : St} {H H' : Hp} {env : Env} {M : MH} {W : WX}
theorem Rel.set_none (R : Rel G g σ H env M) (i : Nat) : Rel G g (σ.set i none) H (env.set i none) M := by
  have aux : ∀ {j : Nat} {w : SV}, (env.set i none)[j]? = some (some w) → j ≠ i ∧ env[j]? = some (some w) := fun {j w} h1 => by
    by_cases hj : i = j
    · subst hj
      by_cases hl : i < env.length
      · rw [List.getElem?_set_self hl] at h1
        cases h1
      · rw [List.getElem?_eq_none (by simpa using hl)] at h1
        cases h1
    · rw [List.getElem?_set_ne hj] at h1
      exact ⟨fun z => hj z.symm, h1⟩
  refine ⟨R.toHRel, by rw [List.length_set, List.length_set]; exact R.el, fun j d h1 => ?_, fun j o h1 => ?_, fun j k b o o' h1 h2 h3 h4 => ?_⟩
  · obtain ⟨hj, h1⟩ := aux h1
    obtain ⟨v, e, q⟩ := R.sl j d h1
    exact ⟨v, by rw [List.getElem?_set_ne (Ne.symm hj)]; exact e, q⟩
  · obtain ⟨hj, h1⟩ := aux h1
    obtain ⟨v, e, q⟩ := R.ow j o h1
    exact ⟨v, by rw [List.getElem?_set_ne (Ne.symm hj)]; exact e, q⟩
  · obtain ⟨hj, h1⟩ := aux h1
    obtain ⟨hk, h2⟩ := aux h2
    rw [List.getElem?_set_ne (Ne.symm hj)] at h3
    rw [List.getElem?_set_ne (Ne.symm hk)] at h4
    exact R.di j k b o o' h1 h2 h3 h4
theorem Rel.wipe (R : Rel G g σ H env M) : ∀ vs : List Nat, Rel G g (L2.wipe σ vs) H (wipeE vs env) M
  | [] => R
  | v :: vs => (R.wipe vs).set_none v
/-- back from a comprehension -/
theorem Rel.back {g0 : Gs} {H0 : Hp} {e0 : Env} {M0 : MH} {vs : List Nat} (R0 : Rel G g0 σ H0 e0 M0) (ok : okOwn vs e0 = true) (N : Next g0 H0 g H) (R : Rel G g (L2.wipe σ vs) H (wipeE vs env) M) : Rel G g σ H (backE vs e0 env) M := by
  have el : env.length = σ.length := by
    have := R.el
    rw [wipeE_len, wipe_length] at this
    exact this
  refine ⟨R.toHRel, by rw [backE_len]; exact el, fun j d h1 => ?_, fun j o h1 => ?_, fun j k b o o' h1 h2 h3 h4 => ?_⟩
  · by_cases hj : j ∈ vs
    · obtain ⟨v, e, q⟩ := R0.sl j d (getD_some (backE_in hj h1))
      exact ⟨v, e, q.next N⟩
    · rw [backE_out hj] at h1
      obtain ⟨v, e, q⟩ := R.sl j d (by rw [wipeE_out hj]; exact h1)
      rw [wipe_out hj] at e
      exact ⟨v, e, q⟩
  · by_cases hj : j ∈ vs
    · exact absurd (backE_in hj h1) (okOwn_at ok hj)
    · rw [backE_out hj] at h1
      obtain ⟨v, e, q⟩ := R.ow j o (by rw [wipeE_out hj]; exact h1)
      rw [wipe_out hj] at e
      exact ⟨v, e, q⟩
  · by_cases hj : j ∈ vs
    · exact absurd (backE_in hj h1) (okOwn_at ok hj)
    · by_cases hk : k ∈ vs
      · exact absurd (backE_in hk h2) (okOwn_at ok hk)
      · rw [backE_out hj] at h1
        rw [backE_out hk] at h2
        exact R.di j k b o o' (by rw [wipeE_out hj]; exact h1) (by rw [wipeE_out hk]; exact h2) (by rw [wipe_out hj]; exact h3) (by rw [wipe_out hk]; exact h4)
/-- a further foreign object -/
def Gs.plus (g : Gs) (D : Addr) : Gs := ⟨fun a => g.Z a ∨ a = D, g.μ⟩
def Gs.less (g g0 : Gs) : Gs := ⟨g0.Z, g.μ⟩
theorem plus_i {g : Gs} {H : Hp} {D : Addr} : NextI g H (g.plus D) H := ⟨⟨[], (List.append_nil _).symm⟩, fun _ _ h _ => h⟩
theorem less_i {g g0 : Gs} {H : Hp} : NextI g H (g.less g0) H := ⟨⟨[], (List.append_nil _).symm⟩, fun _ _ h _ => h⟩
theorem Rel.plus (R : Rel G g σ H env M) {D : Addr} {o : HO} (hD : H D = some o) (m : D ∉ g.μ) (ns : ∀ (j : Nat) (u : MO), env[j]? = some (some (.own u)) → σ[j]? ≠ some (some (.ref D))) : Rel G (g.plus D) σ H env M :=
  ⟨⟨fun a h => h.elim (R.ZH a) fun e => ⟨o, e ▸ hD⟩, R.len, R.nd, fun a h z => z.elim (R.mZ a h) fun e => m (e ▸ h), fun n a u h1 h2 => (R.ob n a u h1 h2).nextI plus_i rfl⟩, R.el,
    fun i d h => let ⟨v, e, q⟩ := R.sl i d h; ⟨v, e, q.nextI plus_i⟩, fun i u h => by
      obtain ⟨a, e, q, z, ma⟩ := R.ow i u h
      exact ⟨a, e, q.nextI plus_i rfl, fun y => y.elim z fun ea => ns i u h (ea ▸ e), ma⟩, R.di⟩
theorem Rel.less {g0 : Gs} (R : Rel G g σ H env M) (w : ∀ a, g0.Z a → g.Z a) : Rel G (g.less g0) σ H env M :=
  ⟨⟨fun a h => R.ZH a (w a h), R.len, R.nd, fun a h z => R.mZ a h (w a z), fun n a u h1 h2 => (R.ob n a u h1 h2).nextI less_i rfl⟩, R.el,
    fun i d h => let ⟨v, e, q⟩ := R.sl i d h; ⟨v, e, q.nextI less_i⟩, fun i u h => by
      obtain ⟨a, e, q, z, ma⟩ := R.ow i u h
      exact ⟨a, e, q.nextI less_i rfl, fun y => z (w a y), ma⟩, R.di⟩
end
abbrev W0 : WX := fun _ _ _ _ => False
theorem XI.blk {X : Cx} {G : Ga} {W : WX} {k : Nat} (c : XI X G W k) (s : Shared) (H : Hp) (scope : Scope) (cenv : PySem.Env) (fp : List Addr) : XI (X.blk s H scope cenv fp) G W0 k :=
  ⟨⟨c.K, c.nd, c.room, c.gd, fun _ _ x => by obtain ⟨_, _, _, _, _, _, _, _, _, _, _, _, _, _, _, _, z⟩ := x; exact z, PassesOwn.never⟩, c.rm, c.calm, c.hd⟩
section
variable {X : Cx} {G : Ga} {W : WX} {k : Nat} {pos : Pos}
theorem bind_is_ok {α β : Type} {r : Res α} {f : α → EM β} {b : β} {e : Env} {m : MH} (h : r.bind f = .ok b e m) : ∃ a e1 m1, r = .ok a e1 m1 ∧ f a e1 m1 = .ok b e m := by
  cases r with
  | ok a e1 m1 => exact ⟨a, e1, m1, rfl, h⟩
  | err x e1 m1 => cases h
  | stuck => cases h
theorem okLc (c : XJ X G W) {elt tg iter : Expr} {ifs : List Expr} {scope : Scope} {own : List (Str × Nat)} {t : PI.TG} {it : EM (List D)} {cnd : EM Bool} {x : EM D} {is : List Nat} (hi : PII X G W tg iter it) (ok : BlkOk X.N X.env.scope scope own)
    (hg : ∀ (s : Shared) (H : Hp) (C : Addr) (cl : List (Str × Addr)) (fp : List Addr), PGI (X.blk s H scope (compEnvC scope cl C X.env) fp) G tg t is) (his : ∀ i ∈ is, i ∈ own.map (·.2))
    (ht : ∀ (s : Shared) (H : Hp) (C : Addr) (cl : List (Str × Addr)) (fp : List Addr), PTs (X.blk s H scope (compEnvC scope cl C X.env) fp) ifs (tT G W0 cnd))
    (he : ∀ (s : Shared) (H : Hp) (C : Addr) (cl : List (Str × Addr)) (fp : List Addr), PUI (X.blk s H scope (compEnvC scope cl C X.env) fp) G W0 elt x) (hs : ∀ x, foldedSetIterable iter X.env x = pure x := by intro _; rfl) :
    ∀ σ H Q, tE G W (eLc t it cnd x (own.map (·.2))) σ H Q → tLc (tI G W it) (tGt G t is) (tT G W0 cnd) (tU G W0 x) (own.map (·.2)) σ H Q := by
  intro σ H Q ⟨g, e, M, R, h⟩
  generalize hvs : own.map (·.2) = vs at h his ⊢
  refine ⟨g, e, M, R, (PostR.bind h).mono fun ds e1 M1 _ k1 J H1 g1 N1 R1 J1 hl D hD => ?_⟩
  by_cases hok : okOwn vs e1 = true
  case neg => rw [if_neg hok] at k1; exact False.elim k1
  rw [if_pos hok] at k1
  cases hlc : lcGo t cnd x vs ds e1 M1 with
  | err _ _ _ => rw [hlc] at k1; exact False.elim k1
  | stuck => rw [hlc] at k1; exact False.elim k1
  | ok ys eF MF =>
  rw [hlc] at k1
  have nZD : ¬ g1.Z D := fun z => by obtain ⟨u, q⟩ := R1.ZH D z; rw [hD] at q; cases q
  have ne1 : ∀ {a : Addr} {o : HO}, H1 a = some o → a ≠ D := fun {a o} q z => by rw [z, hD] at q; cases q
  let Inv1 : Nat → Hp → Prop := fun i H2 => ∃ (g2 : Gs) (e2 : Env) (M2 : MH) (done : List PI.D) (vdone : List V) (rest : List PI.D), Next g1 H1 g2 H2 ∧ Rel G g2 (L2.wipe σ vs) H2 (wipeE vs e2) M2 ∧ H2 D = some (.lst vdone) ∧ IsL G g2 H2 done vdone ∧ D ∉ g2.μ ∧
    (∀ (j : Nat) (u : MO), (wipeE vs e2)[j]? = some (some (.own u)) → (L2.wipe σ vs)[j]? ≠ some (some (.ref D))) ∧ lcGo t cnd x vs (ds.drop i) e2 M2 = .ok rest eF MF ∧ ys = done ++ rest ∧ done.length ≤ i
  have start : Inv1 0 (upd H1 D (.lst [])) := by
    have w : Grow H1 (upd H1 D (.lst [])) := Grow.upd hD
    refine ⟨g1, e1, M1, [], [], ys, R1.toHRel.grows w, (R1.grow w).wipe vs, upd_same, by simp only [IsL], fun m => ?_, fun j u h1 h2 => ?_, by rw [List.drop_zero]; exact hlc, rfl, Nat.zero_le _⟩
    · obtain ⟨u, q⟩ := R1.toHRel.mu m
      rw [hD] at q; cases q
    · obtain ⟨a, ea, qa, _⟩ := (R1.wipe vs).ow j u h1
      rw [h2] at ea
      cases ea
      obtain ⟨u', q⟩ := qa.some
      rw [hD] at q; cases q
  refine ⟨fun i mm H2 => mm = ds.length - i ∧ i ≤ ds.length ∧ Inv1 i H2, ⟨ds.length, by simp, Nat.zero_le _, start⟩, ?_⟩
  rintro i mm H2 ⟨rfl, hle, g2, e2, M2, done, vdone, rest, N2, R2, hD2, hdone, mD, nD, hgo, hys, hlen⟩
  by_cases hlt : i < ds.length
  · obtain ⟨j1, j2⟩ := (J1 i g2 H2 N2).1 ds[i] (List.getElem?_eq_getElem hlt)
    have ed : ds.drop i = ds[i] :: ds.drop (i + 1) := List.drop_eq_getElem_cons hlt
    rw [ed] at hgo
    refine .inr ⟨j1, Inv1 (i + 1), fun H' q => ⟨ds.length - (i + 1), by omega, rfl, hlt, q⟩, fun xv H3 y => ?_⟩
    obtain ⟨w3, q3⟩ := j2 xv H3 y
    have hD3 : H3 D = some (.lst vdone) := w3 D _ hD2
    have R3 := (R2.grow w3).plus hD3 mD nD
    have N3 := N2.trans (R2.toHRel.grows w3)
    simp only [lcGo] at hgo
    cases ht1 : t ds[i] (wipeE vs e2) with
    | none => rw [ht1] at hgo; cases hgo
    | some e3 =>
    rw [ht1] at hgo
    obtain ⟨kb, e5, M5, hc5, hgo⟩ := bind_is_ok hgo
    refine ⟨g2.plus D, wipeE vs e2, M2, ds[i], e3, R3, q3.nextI plus_i, ht1, fun σ4 H4 g4 N4 R4 o4 => ⟨wipe_eq his o4, g4, e3, M2, R4, ?_⟩⟩
    rw [hc5]
    intro H5 g5 N5 R5
    have N45 := N4.trans N5
    -- a turn's end
    have fin : ∀ {g6 : Gs} {H6 : Hp} {e6 : Env} {M6 : MH} {done' : List PI.D} {vdone' : List V} {rest' : List PI.D}, Next (g2.plus D) H3 g6 H6 → Rel G g6 σ4 H6 e6 M6 → (∀ H7, NextI g6 H6 (g6.less g1) H7 → IsL G (g6.less g1) H7 done' vdone') →
        lcGo t cnd x vs (ds.drop (i + 1)) e6 M6 = .ok rest' eF MF → ys = done' ++ rest' → done'.length ≤ i + 1 → Inv1 (i + 1) (upd H6 D (.lst vdone')) := by
      intro g6 H6 e6 M6 done' vdone' rest' N6 R6 hd hgo' hys' hl'
      have hD6 : H6 D = some (.lst vdone) := (N6.kZ D (.inr rfl)).trans hD3
      have mt : Mut (H6 D) := by rw [hD6]; trivial
      have Zg : g6.Z = fun a => g2.Z a ∨ a = D := N6.Z
      have Z2 : g2.Z = g1.Z := N2.Z
      have lz : ∀ a, g1.Z a → g6.Z a := fun a z => by rw [Zg]; exact .inl (by rw [Z2]; exact z)
      have mD6 : D ∉ g6.μ := fun m => R6.mZ D m (by rw [Zg]; exact .inr rfl)
      have Rw : Rel G g6 (L2.wipe σ vs) H6 (wipeE vs e6) M6 := by
        have := R6.wipe vs
        rw [wipe_eq his o4] at this
        exact this
      have nD6 : ∀ (j : Nat) (u : MO), (wipeE vs e6)[j]? = some (some (.own u)) → (L2.wipe σ vs)[j]? ≠ some (some (.ref D)) := fun j u h1 h2 => by
        obtain ⟨a, ea, qa, za, _⟩ := Rw.ow j u h1
        rw [h2] at ea
        cases ea
        exact za (by rw [Zg]; exact .inr rfl)
      have Rl : Rel G (g6.less g1) (L2.wipe σ vs) H6 (wipeE vs e6) M6 := Rw.less lz
      have nz : ¬ (g6.less g1).Z D := nZD
      have NU : Next (g6.less g1) H6 (g6.less g1) (upd H6 D (.lst vdone')) := upd_next nz mt _
      refine ⟨g6.less g1, e6, M6, done', vdone', rest', ⟨rfl, ?_, fun a z => ?_, fun a o q n => ?_⟩, Rl.next NU (fun b hb => upd_ne fun z => mD6 (z ▸ hb)) (fun j u b h1 h2 => upd_ne fun z => nD6 j u h1 (z ▸ h2)), upd_same, ?_, mD6, nD6, hgo', hys', hl'⟩
      · obtain ⟨l1, q1⟩ := N2.μ
        obtain ⟨l2, q2⟩ := N6.μ
        exact ⟨l1 ++ l2, by show g6.μ = _; rw [q2]; show g2.μ ++ l2 = _; rw [q1, List.append_assoc]⟩
      · have q1 := N2.kZ a z
        obtain ⟨u, qu⟩ := R1.ZH a z
        have z2 : (g2.plus D).Z a := .inl (by rw [Z2]; exact z)
        have q2 := N6.kZ a z2
        rw [upd_ne (ne1 qu), q2, qu]
        exact w3 a u (by rw [q1, qu])
      · rw [upd_ne (ne1 q)]
        exact N6.kI a o (w3 a o (N2.kI a o q n)) n
      · exact hd _ ⟨⟨[], by show g6.μ = _; simp⟩, fun a o q n => NU.kI a o q n⟩
    cases kb with
    | false =>
      rw [if_neg Bool.false_ne_true] at hgo ⊢
      have NN := N45
      have hD5 : H5 D = some (.lst vdone) := (NN.kZ D (.inr rfl)).trans hD3
      have := fin NN R5 (done' := done) (vdone' := vdone) (rest' := rest) (fun H7 NI => (((hdone.next (R2.toHRel.grows w3)).nextI plus_i).next NN).nextI NI) hgo hys (Nat.le_succ_of_le hlen)
      have eu : upd H5 D (.lst vdone) = H5 := by
        funext b
        by_cases hb : b = D
        · rw [hb, upd_same, hD5]
        · rw [upd_ne hb]
      rw [eu] at this
      exact this
    | true =>
      rw [if_pos rfl] at hgo ⊢
      obtain ⟨dv, e6, M6, hx6, hgo⟩ := bind_is_ok hgo
      obtain ⟨ys', e7, M7, hgo2, hgo⟩ := bind_is_ok hgo
      cases hgo
      refine ⟨g5, e5, M5, R5, ?_⟩
      rw [hx6]
      intro v H6 g6 N6 R6 r6
      have NN := N45.trans N6
      have hD6 : H6 D = some (.lst vdone) := (NN.kZ D (.inr rfl)).trans hD3
      refine ⟨vdone, hD6, ?_, ?_⟩
      · rw [← IsL.length hdone]
        omega
      · refine fin NN R6 (done' := done ++ [dv]) (vdone' := vdone ++ [v]) (rest' := ys') (fun H7 NI => ?_) hgo2 (by rw [hys, List.append_assoc]; rfl) (by rw [List.length_append]; exact Nat.succ_le_succ hlen)
        exact ((((hdone.next (R2.toHRel.grows w3)).nextI plus_i).next NN).nextI NI).append (by simp only [IsL]; exact ⟨r6.nextI NI, trivial⟩)
  · have ei : i = ds.length := by omega
    subst ei
    rw [List.drop_length] at hgo
    cases hgo
    refine .inl ⟨(J1 _ g2 H2 N2).2 (Nat.le_refl _), k1 (.ref D) H2 g2 (N1.trans N2) (R1.back hok N2 R2) ⟨D, rfl, ⟨vdone, hD2, by rw [hys, List.append_nil]; exact hdone⟩, by rw [N2.Z]; exact nZD, mD, fun j u h1 h2 => ?_⟩⟩
    by_cases hj : j ∈ vs
    · exact okOwn_at hok hj (backE_in hj h1)
    · rw [backE_out hj] at h1
      exact nD j u (by rw [wipeE_out hj]; exact h1) (by rw [wipe_out hj]; exact h2)
/-- as a value -/
theorem okLcE (c : XI X G W k) {elt tg iter : Expr} {ifs : List Expr} {scope : Scope} {own : List (Str × Nat)} {t : PI.TG} {it : EM (List D)} {cnd : EM Bool} {x : EM D} {is : List Nat} (hi : PII X G W tg iter it) (ok : BlkOk X.N X.env.scope scope own)
    (hg : ∀ (s : Shared) (H : Hp) (C : Addr) (cl : List (Str × Addr)) (fp : List Addr), PGI (X.blk s H scope (compEnvC scope cl C X.env) fp) G tg t is) (his : ∀ i ∈ is, i ∈ own.map (·.2))
    (ht : ∀ (s : Shared) (H : Hp) (C : Addr) (cl : List (Str × Addr)) (fp : List Addr), PTs (X.blk s H scope (compEnvC scope cl C X.env) fp) ifs (tT G W0 cnd))
    (he : ∀ (s : Shared) (H : Hp) (C : Addr) (cl : List (Str × Addr)) (fp : List Addr), PUI (X.blk s H scope (compEnvC scope cl C X.env) fp) G W0 elt x) (hs : ∀ x, foldedSetIterable iter X.env x = pure x := by intro _; rfl) :
    PEI X G W (.ListComp elt [⟨tg, iter, ifs, 0⟩] scope pos) (eLc t it cnd x (own.map (·.2))) := PE.imp (pe_lc c.calm c.nd hi ok hg ht he hs) (okLc c hi ok hg his ht he hs)
end
end PI
/-! PISnd5: lists, tuples, texts, ranges walked; defs and their calls. -/
namespace PI
open PySem PySem.Spec PyProof.Rows L2
section
variable {X : Cx} {G : Ga} {W : WX} {k : Nat} {pos : Pos}
theorem signs_get {cs : List Nat} {i : Nat} : (cs.map fun c => PI.D.str [c])[i]? = (cs[i]?).map fun c => .str [c] := by rw [List.getElem?_map]
/-- two ways to walk -/
theorem PI.or {tg e : Expr} {t t' : TI} (h : PI X tg e t) (h' : PI X tg e t') : PI X tg e (fun σ H R => t σ H R ∨ t' σ H R) := ⟨fun pins s σ H R I q => q.elim (h.run pins s σ H R I) (h'.run pins s σ H R I)⟩
/-- a further look at the state when the walk begins -/
theorem PI.look {tg e : Expr} {t : TI} (h : PI X tg e t) {t' : TI} {P : It → Hp → Prop} (w : ∀ σ H R, t' σ H R → t σ H fun J H1 => P J H1 → R J H1)
    (look : ∀ pins σ J H s, Inv X pins σ H s → P J H) : PI X tg e t' := by
  refine ⟨fun pins s σ H R I q => ?_⟩
  refine thn (h.run pins s σ H _ I (w σ H R q)) fun v s1 h1 => thn h1 fun itv s2 h2 => ?_
  obtain ⟨it, fp, tn, J, H', e, I2, T, st, f, r⟩ := h2
  exact ⟨it, fp, tn, J, H', e, I2, T, st, f, r (look _ _ _ _ _ I2)⟩
/-- every list, tuple that is tracked has no more than the line -/
def Sizes (K : PySem.W.Frag) (H : Hp) : Prop := (∀ a xs, SqL K H a xs → xs.length ≤ sizeLine) ∧ (∀ a xs, SqT K H a xs → xs.length ≤ sizeLine) ∧ (∀ a xs, Rd H a (.dK xs) → xs.length ≤ sizeLine) ∧ ∀ a xs, Rd H a (.dT xs) → xs.length ≤ sizeLine
theorem Inv.sizes {pins : List (Addr × Obj)} {σ : St} {H : Hp} {s : Shared} (I : Inv X pins σ H s) : Sizes X.K H := by
  refine ⟨fun a xs q => ?_, fun a xs q => ?_, fun a xs q => ?_, fun a xs q => ?_⟩
  · obtain ⟨its, r, _, hz⟩ := I.list q
    exact hz
  · obtain ⟨its, r, _, hz⟩ := I.tuple q
    exact hz
  · exact (q.ok I.hok).1
  · exact (q.ok I.hok).1
theorem okISeq (c : XJ X G W) {tg e : Expr} {m : EM SV} (he : PEI X G W e m) : PII X G W tg e (itSeq m) := by
  have he2 := okUse he
  have pl := pi_list (tg := tg) he2
  have pt := pi_tup (tg := tg) he2
  have ps := pi_str (tg := tg) he2
  refine PI.look (PI.or pl (PI.or pt ps)) (P := fun _ H => Sizes X.K H) (fun σ H R ⟨g, e0, M, R0, h⟩ => ?_) fun pins σ J H s I => Inv.sizes I
  have h2 := PostR.bind h
  have use : PostR G W g H σ (eUse m e0 M) fun d e' M' => PostR G W g H σ (EM.lift (itemsOf d) e' M') (fun ds e' M' => ∀ (J : It) (H' : Hp) (g' : Gs), Next g H g' H' → Rel G g' σ H' e' M' → ItIs G g' H' J ds → ds.length ≤ sizeLine → R J H') := by
    unfold eUse
    simp only [bind_ap]
    cases hm : m e0 M with
    | ok sv e1 M1 => rw [hm] at h2; exact h2
    | err x e1 M1 => rw [hm] at h2; exact h2
    | stuck => rw [hm] at h2; exact h2
  -- which kind it is
  cases hr : eUse m e0 M with
  | stuck => rw [hr] at use; exact False.elim use
  | err x e1 M1 => rw [hr] at use; exact .inl ⟨g, e0, M, R0, by rw [hr]; exact use⟩
  | ok d e1 M1 =>
    rw [hr] at use
    obtain ⟨ds, eds, K1⟩ := lift_ok use
    have kind : (∃ xs, d = .lst xs) ∨ (∃ xs, d = .tup xs ∨ d = .tupw xs) ∨ ∃ cs, d = .str cs := by
      cases d with
      | lst xs => exact .inl ⟨_, rfl⟩
      | tup xs => exact .inr (.inl ⟨_, .inl rfl⟩)
      | tupw xs => exact .inr (.inl ⟨_, .inr rfl⟩)
      | str cs => exact .inr (.inr ⟨_, rfl⟩)
      | _ => cases eds
    rcases kind with ⟨xs, rfl⟩ | ⟨xs, ed⟩ | ⟨cs, rfl⟩
    · cases eds
      refine .inl ⟨g, e0, M, R0, ?_⟩
      rw [hr]
      intro v H1 g1 N1 R1 r
      simp only [Is] at r
      obtain ⟨a, vs, rfl, lf, rl⟩ := r
      have sq : ∀ {H2 : Hp}, LF H2 G.K a vs → SqL X.K H2 a vs := fun q => by rw [c.K]; exact q.sq
      refine ⟨a, rfl, ⟨vs, sq lf⟩, fun sz => K1 _ H1 g1 N1 R1 (fun i g2 H2 N2 => ⟨fun d hd => ?_, fun hle => ?_⟩) ?_⟩
      · obtain ⟨w, hw, iw⟩ := (rl.next N2).get hd
        exact ⟨⟨vs, w, sq (lf.nextI N2.i), hw⟩, fun x H3 y => by
          obtain ⟨rfl, y⟩ := y
          have := y vs (sq (lf.nextI N2.i))
          rw [hw] at this
          cases this
          exact ⟨Grow.refl _, iw⟩⟩
      · exact ⟨vs, sq (lf.nextI N2.i), by rw [← IsL.length rl]; exact hle⟩
      · rw [IsL.length rl]
        exact sz.1 a vs (sq lf)
    · have eds' : ds = xs := by rcases ed with rfl | rfl <;> (cases eds; rfl)
      subst eds'
      refine .inr (.inl ⟨g, e0, M, R0, ?_⟩)
      rw [hr]
      intro v H1 g1 N1 R1 r
      have r : ∃ a vs, v = .ref a ∧ SqT G.K H1 a vs ∧ IsL G g1 H1 ds vs := by
        rcases ed with rfl | rfl
        · simp only [Is] at r
          obtain ⟨a, vs, e, q, r⟩ := r
          exact ⟨a, vs, e, q.t, r⟩
        · simp only [Is] at r
          obtain ⟨a, vs, e, q, r⟩ := r
          exact ⟨a, vs, e, .inl (.inl q), r⟩
      obtain ⟨a, vs, rfl, lf, rl⟩ := r
      rw [← c.K] at lf
      refine ⟨a, rfl, ⟨vs, lf⟩, fun sz => K1 _ H1 g1 N1 R1 (fun i g2 H2 N2 => ⟨fun d hd => ?_, fun hle => ?_⟩) ?_⟩
      · obtain ⟨w, hw, iw⟩ := (rl.next N2).get hd
        exact ⟨⟨vs, w, sqT_nextI N2.i lf, hw⟩, fun x H3 y => by
          obtain ⟨rfl, y⟩ := y
          have := y vs (sqT_nextI N2.i lf)
          rw [hw] at this
          cases this
          exact ⟨Grow.refl _, iw⟩⟩
      · exact ⟨vs, sqT_nextI N2.i lf, by rw [← IsL.length rl]; exact hle⟩
      · rw [IsL.length rl]
        exact sz.2.1 a vs lf
    · cases eds
      refine .inr (.inr ⟨g, e0, M, R0, ?_⟩)
      rw [hr]
      intro v H1 g1 N1 R1 r
      simp only [Is] at r
      obtain ⟨rfl, hl⟩ := r
      refine ⟨_, rfl, fun sz => K1 _ H1 g1 N1 R1 (fun i g2 H2 N2 => ⟨fun d hd => ?_, fun hle => ?_⟩) (by rw [List.length_map]; exact hl)⟩
      · rw [signs_get] at hd
        cases hc : cs[i]? with
        | none => rw [hc] at hd; cases hd
        | some cc =>
          rw [hc] at hd
          cases hd
          have hi : i < cs.length := (List.getElem?_eq_some_iff.mp hc).1
          refine ⟨by show i < (cs.toArray).size; simpa using hi, fun x H3 y => ?_⟩
          obtain ⟨rfl, c', h1, h2⟩ := y
          have h1 : (cs.toArray)[i]? = some c' := h1
          rw [List.getElem?_toArray, hc] at h1
          cases h1
          refine ⟨Grow.refl _, ?_⟩
          simp only [Is]
          exact ⟨h2, by rw [sizeLine_eq]; show 1 ≤ 16777216; omega⟩
      · show (cs.toArray).size ≤ i
        rw [List.length_map] at hle
        simpa using hle
theorem rangeD_len (lo hi : Int) : (rangeD lo hi).length = (hi - lo).toNat := by unfold rangeD; rw [List.length_map, List.length_range]
theorem it_range {g : Gs} {H : Hp} {lo hi : Int} : ItIs G g H (Itr lo (hi - lo).toNat) (rangeD lo hi) := fun i g2 H2 N2 => ⟨fun d hd => by
  unfold rangeD at hd
  rw [List.getElem?_map] at hd
  cases hr : (List.range (hi - lo).toNat)[i]? with
  | none => rw [hr] at hd; cases hd
  | some j =>
    rw [hr] at hd
    have hi' : i < (hi - lo).toNat := by
      have := (List.getElem?_eq_some_iff.mp hr).1
      simpa using this
    have ej : j = i := by
      rw [List.getElem?_range hi'] at hr
      exact (Option.some.inj hr).symm
    subst ej
    cases hd
    exact ⟨hi', fun x H3 y => by
      obtain ⟨rfl, rfl⟩ := y
      exact ⟨Grow.refl _, rfl⟩⟩, fun hle => by rw [rangeD_len] at hle; exact hle⟩
theorem vwl1 {g : Gs} {H : Hp} {d : PI.D} {vs : List V} (h : VwL G g H [d] vs) : ∃ v, vs = [v] ∧ Vw G g H d v := by
  match vs, h with
  | [v], h => exact ⟨v, rfl, h.1⟩
  | [], h => exact h.elim
  | _ :: _ :: _, h => exact h.2.elim
theorem vwl2 {g : Gs} {H : Hp} {d d' : PI.D} {vs : List V} (h : VwL G g H [d, d'] vs) : ∃ v w, vs = [v, w] ∧ Vw G g H d v ∧ Vw G g H d' w := by
  match vs, h with
  | [v, w], h => exact ⟨v, w, rfl, h.1, h.2.1⟩
  | [], h => exact h.elim
  | [_], h => exact h.2.elim
  | _ :: _ :: _ :: _, h => exact h.2.2.elim
theorem vw_int {g : Gs} {H : Hp} {i : Int} {v : V} (h : Vw G g H (.int i) v) : v = .int i := by
  rcases h with h | ⟨a, o, _, _, e⟩
  · exact h
  · cases o <;> cases e
theorem okIR1 {tg a : Expr} {p : Pos} {m : EM (List PV)} (hm : X.mg "range" = none) (ha : PAPI X G W [a] m) (hg : Gl X "range" := by rfl) (hs : starEach [a] X.env = [(false, eval a X.env)] := by rfl) : PII X G W tg (.Call (.Name "range" p) [a] [] pos) (itR1 m) :=
  PI.imp (pi_range1 hg hm ha hs) fun σ H R ⟨g, e, M, R0, h⟩ => ⟨g, e, M, R0, (PostR.bind h).mono fun ps e1 M1 _ k1 vs H1 g1 N1 R1 r => by
    obtain ⟨ds, k2, w⟩ := nowL_ok R1 r (PostR.bind (k1.from N1))
    match ds, k2, w with
    | [.int n], k2, w =>
      obtain ⟨v, rfl, q⟩ := vwl1 w
      have := vw_int q
      subst this
      by_cases hn : -100000 ≤ n ∧ n ≤ 100000
      · simp only [if_pos hn] at k2
        have e0 : n.toNat = (n - 0).toNat := by rw [Int.sub_zero]
        exact ⟨n, rfl, by omega, by omega, k2 _ H1 g1 N1 R1 (by rw [e0]; exact it_range) (by rw [rangeD_len, sizeLine_eq]; omega)⟩
      · simp only [if_neg hn] at k2
        exact False.elim k2
    | [], k2, w => exact False.elim k2
    | d :: d' :: r, k2, w => cases d <;> exact False.elim k2
    | [.non], k2, _ | [.bl _], k2, _ | [.str _], k2, _ | [.tup _], k2, _ | [.tupw _], k2, _ | [.lst _], k2, _ | [.dic _], k2, _ | [.ins _ _], k2, _ | [.exn _ _], k2, _ | [.obj _], k2, _ | [.fn _], k2, _ | [.cls _], k2, _ | [.ty _], k2, _ => exact False.elim k2⟩
/-! ### defs -/
/-- what a def promises: what my function gives -/
def PostF (G : Ga) (g : Gs) (H : Hp) (Q : VK) (E : XK) (r : FR) : Prop := match r with
  | .ok s M' => ∀ (v : V) (H' : Hp) (g' : Gs), Next g H g' H' → HRel G g' H' M' → SVIs G g' H' [] [] v s → Q v H'
  | .err x M' => ∀ (H' : Hp) (g' : Gs) (cls : Value) (d : Option Addr), Next g H g' H' → HRel G g' H' M' → XIs G g' H' cls d x → E cls d H'
  | .stuck => False
def SpI (G : Ga) (n : Nat) (f : FT) : Sp := fun vs H Q E => ∃ g ds M, HRel G g H M ∧ (∀ a, (∃ o, H a = some o) → a ∉ g.μ → g.Z a) ∧ IsL G g H ds vs ∧ ds.length = n ∧ PostF G g H Q E (f ds M)
structure RoomI (p : Bool) (k : Nat) (A : Around) : Prop where
  r : Room k A
  g : GdOk p A
theorem RoomI.mono {p : Bool} {j k : Nat} {A : Around} (r : RoomI p k A) (h : j ≤ k) : RoomI p j A := ⟨r.r.mono h, r.g⟩
theorem guards_deeper {p : Bool} {A : Around} {env : PySem.Env} (h : GdOk p A) : GdOk p (A.deeper env) := by
  first | exact h | (simp [Around.deeper, Around.under, pushGuards, Code.guards, Code.isGuard]; exact h)
structure FnI (P : Program) (w : World) (G : Ga) (mg : Str → Option Value) (base : Heap) (k : Nat) (f : Addr) (fd : FuncData) (ps : List Str) (sem : FT) : Prop where
  run : ∀ (A : Around) (outer : List PySem.Env) (s : Shared) (H : Hp) (args : Args) (us : List Value) (vs : List V) (Q : VK) (E : XK), RoomI G.pg k A → Env0 P w G.K mg base A outer s H → BindsTo s fd args (ps.zip us) → Vals vs us → SpI G ps.length sem vs H Q E →
    codeAny (model P w) A (.call (.ref f) args) (CR (L2N.CX P w) outer P w H s Q E) s
theorem FnI.mono {P : Program} {w : World} {G : Ga} {mg : Str → Option Value} {base : Heap} {j k : Nat} {f : Addr} {fd : FuncData} {ps : List Str} {sem : FT} (F : FnI P w G mg base j f fd ps sem) (h : j ≤ k) : FnI P w G mg base k f fd ps sem :=
  ⟨fun A outer s H args us vs Q E hr => F.run A outer s H args us vs Q E (hr.mono h)⟩
theorem startE_len (ns : Nat) (ds : List PI.D) (h : ds.length ≤ ns) : (startE ns ds).length = ns := by unfold startE; rw [List.length_append, List.length_map, List.length_replicate]; omega
theorem rel_start {G : Ga} {g : Gs} {H : Hp} {M : MH} {N : List Str} {ds : List PI.D} {vs : List V} (R : HRel G g H M) (q : IsL G g H ds vs) (hl : ds.length ≤ N.length) : Rel G g (L2.start N vs) H (startE N.length ds) M := by
  have lv := IsL.length q
  have noOwn : ∀ (i : Nat) (o : MO), (startE N.length ds)[i]? ≠ some (some (.own o)) := fun i o h => by
    unfold startE at h
    by_cases hi : i < ds.length
    · rw [List.getElem?_append_left (by simpa using hi), List.getElem?_map] at h
      cases e : ds[i]? with
      | none => rw [e] at h; cases h
      | some d => rw [e] at h; cases h
    · rw [List.getElem?_append_right (by simpa using hi), List.getElem?_replicate] at h
      split at h <;> cases h
  refine ⟨R, by rw [startE_len _ _ hl]; unfold L2.start; rw [List.length_append, List.length_map, List.length_replicate]; omega, fun i d h => ?_, fun i o h => absurd h (noOwn i o), fun i j a o o' h => absurd h (noOwn i o)⟩
  unfold startE at h
  by_cases hi : i < ds.length
  · rw [List.getElem?_append_left (by simpa using hi), List.getElem?_map] at h
    cases e : ds[i]? with
    | none => rw [e] at h; cases h
    | some d' =>
      rw [e] at h
      cases h
      obtain ⟨v, e2, r⟩ := q.get e
      refine ⟨v, ?_, r⟩
      unfold L2.start
      rw [List.getElem?_append_left (by simp; omega), List.getElem?_map, e2] <;> rfl
  · rw [List.getElem?_append_right (by simpa using hi), List.getElem?_replicate] at h
    split at h <;> cases h
section
variable {P : Program} {w : World} {mg : Str → Option Value} {base : Heap} {xn qual : Str} {params : Arguments} {body : List Stmt} {scope : Scope} {dvs : List V} {kws : List (Str × V)} {f : Addr} {fd : FuncData}
/-- THE RULE: a def of the text keeps what my function says -/
theorem FnI.of {N ps : List Str} {b : EM Fl} (F : FunD G.K xn qual params body scope dvs kws f fd) (S : FnScope N ps scope)
    (hb : ∀ (cdv : Value) (A : Around) (outer : List PySem.Env) (s : Shared) (H : Hp) (E : XK), XI (cxOf (L2N.CX P w) P w G.K mg base N qual scope f cdv A outer s H E) G (fun cls d _ H => E cls d H) k →
      PSsI (cxOf (L2N.CX P w) P w G.K mg base N qual scope f cdv A outer s H E) G (fun cls d _ H => E cls d H) body b) :
    FnI P w G mg base (k + 1) f fd ps (mkF ps.length N.length b) := by
  obtain ⟨oc, od, dV, kV, doc, pm, an, cdv, ct, osl, rfl, lk, hcd, _, _⟩ := F.ex
  refine ⟨fun A outer s H args us vs Q E hr e0 hbd r hsp => ?_⟩
  obtain ⟨g, ds, M, R, hZ, q, hn, post⟩ := hsp
  have hl : vs.length = ps.length := by rw [← IsL.length q]; exact hn
  have KX : G.K.In s.heap := e0.mod.kin.keeps fun b o e => (e0.bs b o e).1
  have lim : s.heap.NoLimit := e0.mod.nolimit.keeps fun b o e => (e0.bs b o e).1
  have hkind : ∀ y ∈ ps.zip us, scope.names.lookup y.1 = some .local ∨ (scope.names.lookup y.1 = some .cell ∧ ((cellsFrom (s.heap.objs.size + 1) scope.names []).lookup y.1).isSome = true) := fun ⟨n, v⟩ hy => by
    rcases S.par n (List.of_mem_zip hy).1 with q | q
    · exact .inl q
    · exact .inr ⟨q, PySem.W.cellsFrom_some _ _ _ (.inl q)⟩
  refine codeAny_call_function hr.r.depth (KX _ _ lk) rfl S.co S.gen rfl (PySem.W.codeRec_of KX hcd) (hbd _ _ _ _ ?_)
  refine wpAny_newFunctionEnv_cells S.kind hkind fun env he s1 x => ?_
  subst he
  refine ⟨lim.keeps x.toInCall.keep, codeAny_func ?_⟩
  have I : Inv (cxOf (L2N.CX P w) P w G.K mg base N qual scope f cdv A outer s H E) [] (L2.start N vs) H s1 := inv_start S hr.r.hd e0 hl r x
  have hN : ps.length ≤ N.length := by have := congrArg List.length S.pre; rw [List.length_take] at this; omega
  have c : XI (cxOf (L2N.CX P w) P w G.K mg base N qual scope f cdv A outer s H E) G (fun cls d _ H => E cls d H) k :=
    ⟨⟨rfl, S.nd, (L2H.roomH_of (hr.r.deeper _)).mono (Nat.zero_le _), guards_deeper hr.g, L2N.takes_of rfl rfl rfl rfl, passes_of rfl⟩, L2H.roomH_of (hr.r.deeper _), rfl, (hr.r.deeper _).hd⟩
  have body_ok := hb cdv A outer s H E c
  have RR := rel_start (N := N) R q (by omega)
  have Zc : ∀ a, ¬ g.Z a → a ∉ g.μ → H a = none := fun a z m => by
    cases e : H a with
    | none => rfl
    | some o => exact absurd (hZ a ⟨o, e⟩ m) z
  have fin : tS G (fun cls d _ H => E cls d H) b { nx := fun _ H' => Q .non H', rt := Q } (L2.start N vs) H := by
    refine ⟨g, startE N.length ds, M, RR, ?_⟩
    unfold mkF at post
    rw [if_pos hn] at post
    cases hbr : b (startE N.length ds) M with
    | stuck => rw [hbr] at post; exact post
    | err xx e' M' =>
      rw [hbr] at post
      exact fun σ' H' g' cls d N' R' xi => post H' g' cls d N' R'.toHRel xi
    | ok fl e' M' =>
      rw [hbr] at post
      cases fl with
      | nx => exact fun σ' H' g' N' R' => post .non H' g' N' R'.toHRel rfl
      | ret sv => exact post
      | bk => exact False.elim post
      | ct => exact False.elim post
  refine wpAny_mono (body_ok.run [] s1 (L2.start N vs) H _ I fin) (fun fl s' hs => ?_) fun e s' hs => hs
  have fin2 : ∀ {σ' : St} {H' : Hp} {v : V} {u : Value}, Inv (cxOf (L2N.CX P w) P w G.K mg base N qual scope f cdv A outer s H E) [] σ' H' s' → RelV v u → Q v H' → CE outer P w H s Q u s' :=
    fun {σ' H' v u} J rv q => ⟨v, H', J.os, J.bare, J.base, J.hok, rv, q⟩
  cases fl with
  | ret u =>
    obtain ⟨v, σ', H', J, rv, q⟩ := hs
    exact fin2 J rv q
  | next =>
    obtain ⟨σ', H', J, q⟩ := hs
    exact fin2 (v := V.non) (u := Value.none) J rfl q
  | brk =>
    obtain ⟨_, _, _, q⟩ := hs
    exact False.elim q
  | cont =>
    obtain ⟨_, _, _, q⟩ := hs
    exact False.elim q
end
end
end PI
/-! PISnd6: calls of defs. -/
namespace PI
open PySem PySem.Spec PyProof.Rows L2
section
variable {X : Cx} {G : Ga} {W : WX} {k : Nat} {f : Addr} {fd : FuncData} {ps : List Str} {sem : FT} {pos p : Pos} {x : Str} {a : Expr} {es : List Expr}
/-- what the callee gets: everything is foreign but the shared objects -/
def gCall (g : Gs) (H : Hp) : Gs := ⟨fun a => (∃ o, H a = some o) ∧ a ∉ g.μ, g.μ⟩
theorem HRel.call {g : Gs} {H : Hp} {M : MH} (R : HRel G g H M) : HRel G (gCall g H) H M :=
  ⟨fun a h => h.1, R.len, R.nd, fun a h z => z.2 h, fun n a o h1 h2 => (R.ob n a o h1 h2).nextI (g' := gCall g H) ⟨⟨[], by simp [gCall]⟩, fun a o h _ => h⟩ rfl⟩
theorem IsL.call {g : Gs} {H : Hp} {ds : List PI.D} {vs : List V} (q : IsL G g H ds vs) : IsL G (gCall g H) H ds vs := q.nextI ⟨⟨[], by simp [gCall]⟩, fun a o h _ => h⟩
section
variable {g g' : Gs} {σ : St} {H H' : Hp} {e : PI.Env} {M M' : MH}
/-- back at home -/
def gHome (g g' : Gs) : Gs := ⟨g.Z, g'.μ⟩
theorem nextI_home : NextI g' H' (gHome g g') H' := ⟨⟨[], by simp [gHome]⟩, fun a o h _ => h⟩
theorem next_home (R : HRel G g H M) (N : Next (gCall g H) H g' H') : Next g H (gHome g g') H' :=
  ⟨rfl, N.μ, fun a h => N.kZ a ⟨R.ZH a h, fun m => R.mZ a m h⟩, N.kI⟩
theorem hrel_home (R : HRel G g H M) (N : Next (gCall g H) H g' H') (R' : HRel G g' H' M') : HRel G (gHome g g') H' M' :=
  ⟨fun a h => R'.ZH a (by rw [N.Z]; exact ⟨R.ZH a h, fun m => R.mZ a m h⟩), R'.len, R'.nd, fun a m h => R'.mZ a m (by rw [N.Z]; exact ⟨R.ZH a h, fun m' => R.mZ a m' h⟩), fun n a o h1 h2 => (R'.ob n a o h1 h2).nextI nextI_home rfl⟩
theorem rel_home (R : Rel G g σ H e M) (N : Next (gCall g H) H g' H') (R' : HRel G g' H' M') : Rel G (gHome g g') σ H' e M' := by
  have NI : NextI g H (gHome g g') H' := (next_home R.toHRel N).i
  refine ⟨hrel_home R.toHRel N R', R.el, fun i d h => let ⟨v, e1, q⟩ := R.sl i d h; ⟨v, e1, q.nextI NI⟩, fun i o h => ?_, R.di⟩
  obtain ⟨a, e1, q, z, m⟩ := R.ow i o h
  have zc : (gCall g H).Z a := ⟨q.some, m⟩
  exact ⟨a, e1, q.nextI NI (N.kZ a zc), z, fun m' => R'.mZ a m' (by rw [N.Z]; exact zc)⟩
theorem sv_home (R : Rel G g σ H e M) (N : Next (gCall g H) H g' H') {v : V} {s : SV} (h : SVIs G g' H' [] [] v s) : SVIs G (gHome g g') H' σ e v s := by
  cases s with
  | val d => exact Is.nextI (d := d) nextI_home h
  | own o =>
    obtain ⟨a, rfl, q, z, m, _⟩ := h
    refine ⟨a, rfl, q.nextI nextI_home rfl, fun z' => z ?_, m, fun i o' h1 h2 => z ?_⟩
    · rw [N.Z]
      exact ⟨R.ZH a z', fun m' => R.mZ a m' z'⟩
    · obtain ⟨b, e1, qb, zb, mb⟩ := R.ow i o' h1
      rw [h2] at e1
      cases e1
      rw [N.Z]
      exact ⟨qb.some, mb⟩
theorem fl_home (h : ∀ f x, G.fld f = x → True) {cls : Value} {d : Option Addr} {x : Xn} (q : XIs G g' H' cls d x) : XIs G (gHome g g') H' cls d x := by
  obtain ⟨e, q⟩ := q
  refine ⟨e, ?_⟩
  cases d with
  | none => exact q
  | some dd =>
    obtain ⟨vfs, e1, q⟩ := q
    exact ⟨vfs, e1, q.nextI nextI_home⟩
/-- a def's promise from the wish of the caller -/
theorem spI_of (R : Rel G g σ H e M) {ds : List PI.D} {vs : List V} {n : Nat} (hn : ds.length = n) (q : IsL G g H ds vs) {Q : VK} (h : PostR G W g H σ ((sem ds M).to e) fun s e' M' => ∀ (v : V) (H' : Hp) (g' : Gs), Next g H g' H' → Rel G g' σ H' e' M' → SVIs G g' H' σ e' v s → Q v H') :
    SpI G n sem vs H Q (fun cls d H' => W cls d σ H') := by
  refine ⟨gCall g H, ds, M, R.toHRel.call, fun a h m => ⟨h, m⟩, q.call, hn, ?_⟩
  cases hs : sem ds M with
  | stuck => rw [hs] at h; exact h
  | ok s M' =>
    rw [hs] at h
    exact fun v H' g' N R' r => h v H' (gHome g g') (next_home R.toHRel N) (rel_home R N R') (sv_home R N r)
  | err xx M' =>
    rw [hs] at h
    exact fun H' g' cls d N R' r => h H' (gHome g g') cls d (next_home R.toHRel N) (rel_home R N R') (fl_home (fun _ _ _ => trivial) r)
end
/-- the callee runs -/
theorem run_fnI (F : FnI X.prog X.w G X.mg X.base k f fd ps sem) (c : XI X G W k) {pins : List (Addr × Obj)} {σ : St} {H : Hp} {s : Shared} {Q : VK} {args : Args} {us : List Value} {vs : List V} (I : Inv X pins σ H s) (hb : BindsTo s fd args (ps.zip us)) (r : Vals vs us)
    (h : SpI G ps.length sem vs H Q (fun cls d H' => W cls d σ H')) {ff : Value → List Value → List (Str × Value) → Sem Value} : codeAny (model X.prog X.w) X.A (.call (.ref f) args) (fun r s' => match r with | .ok (.ret u) => EP X pins σ Q u s' | .ok _ => False | .error e => X.xe e s') s := by
  have e0 := I.env0
  rw [c.K] at e0
  refine codeAny_mono (F.run X.A X.stack s H args us vs Q _ ⟨c.roomC, c.gd⟩ e0 hb r h) fun r s' hq => ?_
  cases r with
  | error e => exact c.tk _ _ (L2N.XE.of_call I (fun cls d H' z => z) hq)
  | ok fl =>
    cases fl with
    | ret u => exact I.after hq
    | next => exact False.elim hq
    | brk => exact False.elim hq
    | cont => exact False.elim hq
theorem isL_len {g : Gs} {H : Hp} {ds : List PI.D} {vs : List V} (q : IsL G g H ds vs) {us : List Value} (r : Vals vs us) : us.length = ds.length := by rw [q.length]; exact r.length.symm
theorem okCall (c : XI X G W k) (F : FnI X.prog X.w G X.mg X.base k f fd ps sem) (hm : X.mg x = some (.ref f)) (hk : PySem.W.keepIn X.K (.ref f) = true) {n : Nat} {dd : List PI.D} {dv : List V} {dvs : List Value} (hb : Binds X.K fd ps dvs) (hd : Vals dv dvs) (hdI : ∀ g H, IsL G g H dd dv)
    {m : EM (List PI.D)} (ha : PAI X G W (a :: es) m) (hlen : (a :: es).length + dd.length = ps.length := by rfl)
    (hln : ∀ e M ds e' M', m e M = .ok ds e' M' → ds.length = (a :: es).length) (hg : Gl X x := by rfl) (hdb : (x == ("__debug__" : Str)) = false := by decide) (he : starEach (a :: es) X.env = (false, eval a X.env) :: starEach es X.env := by rfl) (hpl : (backTo pos (starEach es X.env)).any (·.1) = false := by rfl) :
    PEI X G W (.Call (.Name x p) (a :: es) [] pos) (eCallD sem dd m) := by
  refine ⟨fun pins s σ H Q I ⟨g, e, M, R, h⟩ => ?_⟩
  refine wpAny_Call_Name_kw (ld_glob I hg hm ?_ hdb)
  refine PySem.W.callWith_K (h₀ := X.base) I.ok.mod.kin hk (thn (ha.run pos pins s σ H (fun vs H1 => ∃ g1 e1 M1 ds, IsL G g1 H1 ds vs ∧ ds.length + dd.length = ps.length ∧ Next g H g1 H1 ∧ Rel G g1 σ H1 e1 M1 ∧ PostR G W g H σ ((sem (ds ++ dd) M1).to e1) fun s e' M' => ∀ (v : V) (H' : Hp) (g' : Gs), Next g H g' H' → Rel G g' σ H' e' M' → SVIs G g' H' σ e' v s → Q v H') I
    ⟨g, e, M, R, (PostR.bind h).mono fun ds e1 M1 eq k1 vs H1 g1 N1 R1 r => ⟨g1, e1, M1, ds, r, by rw [hln _ _ _ _ _ eq]; exact hlen, N1, R1, k1⟩⟩) fun us s1 ⟨vs, H1, I1, r, g1, e1, M1, ds, q, hl, N1, R1, k1⟩ => ⟨I1.kIn, ?_⟩) he hpl
  have r2 : Vals (vs ++ dv) (us ++ dvs) := r.append hd
  have q2 : IsL G g1 H1 (ds ++ dd) (vs ++ dv) := IsL.append q (hdI g1 H1)
  have hu : (us ++ dvs).length = ps.length := by rw [isL_len q2 r2, List.length_append]; exact hl
  have k2 : PostR G W g1 H1 σ ((sem (ds ++ dd) M1).to e1) fun s e' M' => ∀ (v : V) (H' : Hp) (g' : Gs), Next g1 H1 g' H' → Rel G g' σ H' e' M' → SVIs G g' H' σ e' v s → Q v H' :=
    (PostR.from N1 k1).mono fun s e' M' _ kk v H' g' N' => kk v H' g' (N1.trans N')
  refine wpAny_call (codeAny_mono (run_fnI F c I1 (hb s1 us I1.kIn hu) r2 (spI_of R1 (by rw [List.length_append]; exact hl) q2 k2) (ff := fun v _ _ => Sem.pure v)) fun r s' hq => ?_)
  cases r with
  | error e => exact hq
  | ok fl => cases fl with
    | ret u => exact hq
    | next => exact hq
    | brk => exact hq
    | cont => exact hq
end
end PI
/-! PISnd7: values read as data; operators, comparisons, subscripts, slices. -/
namespace PI
open PySem PySem.Spec PyProof.Rows L2
section
variable {G : Ga} {g : Gs} {H : Hp} {v : V}
theorem vw_lst {ds : List D} (h : Vw G g H (.lst ds) v) : ∃ a vs, v = .ref a ∧ SqL G.K H a vs ∧ IsL G g H ds vs := by
  rcases h with h | ⟨a, o, rfl, q, e⟩
  · simp only [Is] at h
    obtain ⟨a, vs, rfl, lf, r⟩ := h
    exact ⟨a, vs, rfl, lf.sq, r⟩
  · cases o with
    | lst xs =>
      cases e
      obtain ⟨vs, q, r⟩ := q
      exact ⟨a, vs, rfl, .inl (.inl q), r⟩
    | _ => cases e
theorem vw_tup {ds : List D} (h : Vw G g H (.tup ds) v) : ∃ a vs, v = .ref a ∧ SqS H G.K a vs ∧ IsL G g H ds vs := by
  rcases h with h | ⟨a, o, rfl, q, e⟩
  · simpa only [Is] using h
  · cases o <;> cases e
theorem vw_tupw {ds : List D} (h : Vw G g H (.tupw ds) v) : ∃ a vs, v = .ref a ∧ H a = some (.tup vs) ∧ IsL G g H ds vs := by
  rcases h with h | ⟨a, o, rfl, q, e⟩
  · simpa only [Is] using h
  · cases o <;> cases e
theorem vw_str {cs : List Nat} (h : Vw G g H (.str cs) v) : v = .str ⟨cs.toArray⟩ ∧ cs.length ≤ sizeLine := by
  rcases h with h | ⟨a, o, rfl, q, e⟩
  · simpa only [Is] using h
  · cases o <;> cases e
theorem vw_bl {b : Bool} (h : Vw G g H (.bl b) v) : v = .bl b := by
  rcases h with h | ⟨a, o, rfl, q, e⟩
  · exact h
  · cases o <;> cases e
theorem vw_non (h : Vw G g H .non v) : v = .non := by
  rcases h with h | ⟨a, o, rfl, q, e⟩
  · exact h
  · cases o <;> cases e
theorem vw_dic {kvs : List (D × D)} (h : Vw G g H (.dic kvs) v) : ∃ a, v = .ref a ∧ ((∃ ks, Rd H a (.dK ks) ∧ IsK G g H kvs ks) ∨ ∃ ks, Rd H a (.dT ks) ∧ kvs ≠ [] ∧ IsT G g H kvs ks) := by
  rcases h with h | ⟨a, o, rfl, q, e⟩
  · simp only [Is] at h
    obtain ⟨a, o, rfl, ⟨ks, q, r⟩ | ⟨ks, q, r⟩⟩ := h
    · exact ⟨a, rfl, .inl ⟨ks, .inr ⟨o, q⟩, r⟩⟩
    · exact ⟨a, rfl, .inr ⟨ks, .inr ⟨o, q⟩, r⟩⟩
  · cases o with
    | dic xs =>
      cases e
      rcases q with ⟨ks, q, r⟩ | ⟨ks, q, r⟩
      · exact ⟨a, rfl, .inl ⟨ks, .inl q, r⟩⟩
      · exact ⟨a, rfl, .inr ⟨ks, .inl q, r⟩⟩
    | _ => cases e
theorem isK_len : ∀ {kvs : List (D × D)} {ks : List (Key × V)}, IsK G g H kvs ks → kvs.length = ks.length
  | [], [], _ => rfl
  | (k, d) :: r, (q, v) :: s, h => by
    simp only [IsK] at h
    exact congrArg Nat.succ (isK_len h.2.2)
  | [], _ :: _, h => by simp only [IsK] at h
  | (_, _) :: _, [], h => by simp only [IsK] at h
theorem isT_keys : ∀ {kvs : List (D × D)} {ks : List (List Key × V)}, IsT G g H kvs ks → (kvs.all (·.1.flatKey)) = true → kvs = [] ∧ ks = []
  | [], [], _, _ => ⟨rfl, rfl⟩
  | (k, d) :: r, (q, v) :: s, h, e => by
    cases k with
    | tup ks => simp [D.flatKey] at e
    | _ => simp only [IsT] at h
  | [], _ :: _, h, _ => by simp only [IsT] at h
  | (k, _) :: _, [], h, _ => by cases k <;> simp only [IsT] at h
theorem datK_keys : ∀ {kvs : List (D × D)} {ps}, datK kvs = some ps → (kvs.all (·.1.flatKey)) = true
  | [], _, _ => rfl
  | (k, d) :: r, ps, h => by
    simp only [datK] at h
    split at h
    · rename_i hk
      cases h1 : dat k with
      | none => rw [h1] at h; cases h
      | some q =>
        rw [h1] at h
        cases h2 : dat d with
        | none => rw [h2] at h; cases h
        | some p =>
          rw [h2] at h
          cases h3 : datK r with
          | none => rw [h3] at h; cases h
          | some ps' =>
            rw [List.all_cons, Bool.and_eq_true]
            exact ⟨hk, datK_keys h3⟩
    · cases h
/-- keys, values of a dict as the layer has them -/
theorem isK_key {k : D} {q : Key} (f : k.flatKey = true) (h : Is G g H k (kV q)) : (∃ i, k = .int i ∧ q = .inl i) ∨ ∃ cs : List Nat, k = .str cs ∧ q = .inr ⟨cs.toArray⟩ := by
  cases k with
  | int i =>
    cases q with
    | inl j => simp only [Is, kV] at h; cases h; exact .inl ⟨i, rfl, rfl⟩
    | inr x => simp only [Is, kV] at h; cases h
  | str cs =>
    cases q with
    | inl j => simp only [Is, kV] at h; cases h.1
    | inr x => simp only [Is, kV] at h; cases h.1; exact .inr ⟨cs, rfl, rfl⟩
  | _ => cases f
end
/-! ### data -/
section
variable {X : Cx} {G : Ga} {W : WX} {k : Nat} {g : Gs} {H : Hp} {pins : List (Addr × Obj)} {σ : St} {s : Shared}
/-- a list stands at the first place -/
def LstAt (s : Shared) : Prop := ∃ o, s.heap.get? sysModules = some o ∧ o.cls = .type "list"
def RdA (s : Shared) (u : Value) (p : PyData) : Prop := ∃ as, Reads s.heap u p as ∧ (noLst p = true → sysModules ∉ as) ∧ (sysModules ∈ as → LstAt s)
def RdAll (s : Shared) (us : List Value) (ps : List PyData) : Prop := ∃ as, ReadsAll s.heap us ps as ∧ (noLstL ps = true → sysModules ∉ as) ∧ (sysModules ∈ as → LstAt s)
theorem noLstK_split : ∀ {qs ps : List PyData}, qs.length = ps.length → noLstK (qs.zip ps) = (noLstL qs && noLstL ps)
  | [], [], _ => rfl
  | q :: qs, p :: ps, h => by
    simp only [List.zip_cons_cons, noLstK, noLstL]
    rw [noLstK_split (by simpa using h)]
    cases noLst q <;> cases noLst p <;> cases noLstL qs <;> cases noLstL ps <;> rfl
  | [], _ :: _, h => by simp at h
  | _ :: _, [], h => by simp at h
theorem rd_list {a : Addr} {vs : List V} {ps : List PyData} (hK : X.K = G.K) (I : Inv X pins σ H s) (q : SqL G.K H a vs) (h : ∀ us, Vals vs us → RdAll s us ps) : RdA s (.ref a) (.list ps) := by
  rw [← hK] at q
  obtain ⟨its, rv, ⟨o, n, ho, hc, _, hd⟩, _⟩ := I.list q
  obtain ⟨as, hr, _, h3⟩ := h its rv
  exact ⟨_, Reads.list ho hc hd hr, (fun z => by cases z), fun hm => by
    rcases List.mem_cons.mp hm with e | hm
    · subst e; exact ⟨o, ho, hc⟩
    · exact h3 hm⟩
theorem rd_tup {a : Addr} {vs : List V} {ps : List PyData} (hK : X.K = G.K) (I : Inv X pins σ H s) (q : SqT G.K H a vs) (h : ∀ us, Vals vs us → RdAll s us ps) : RdA s (.ref a) (.tuple ps) := by
  rw [← hK] at q
  obtain ⟨its, rv, ⟨o, ho, hc, n, hd⟩, _⟩ := I.tuple q
  obtain ⟨as, hr, hn⟩ := h its rv
  exact ⟨_, Reads.tuple ho hc hd hr, hn⟩
theorem pairs_split {P : Program} {w : World} : ∀ {es : List DictEntry} {vs : List (Key × Value)}, Pairs (mixKind P w) es vs → Vals (vs.map fun p => kV p.1) (es.map (·.key)) ∧ es.map (·.val) = vs.map (·.2)
  | _, _, .nil => ⟨.nil, rfl⟩
  | _, _, .cons hk hv r => by
    obtain ⟨h1, h2⟩ := pairs_split r
    exact ⟨.cons (relV_key hk) h1, by rw [List.map_cons, List.map_cons, hv, h2]⟩
theorem kv_split : ∀ {ks : List (Key × V)} {vs : List (Key × Value)}, KV ks vs → vs.map (fun p => kV p.1) = ks.map (fun p => kV p.1) ∧ Vals (ks.map (·.2)) (vs.map (·.2))
  | _, _, .nil => ⟨rfl, .nil⟩
  | _, _, .cons h r => by
    obtain ⟨h1, h2⟩ := kv_split r
    exact ⟨by rw [List.map_cons, List.map_cons, h1, h.1], .cons h.2 h2⟩
theorem rd_dic {a : Addr} {ks : List (Key × V)} {qs ps : List PyData} (I : Inv X pins σ H s) (q : Rd H a (.dK ks)) (hl : qs.length = ps.length) (h1 : ∀ us, Vals (ks.map fun p => kV p.1) us → RdAll s us qs) (h2 : ∀ us, Vals (ks.map (·.2)) us → RdAll s us ps) :
    RdA s (.ref a) (.dict (qs.zip ps)) := by
  obtain ⟨z, hs, vs, kv, o, es, ep, ho, hx, hd, hko, hp, nd⟩ := q.ok I.hok
  obtain ⟨e1, e2⟩ := pairs_split hp
  obtain ⟨e3, e4⟩ := kv_split kv
  rw [e3] at e1
  rw [← e2] at e4
  obtain ⟨as, r1, n1, m1⟩ := h1 _ e1
  obtain ⟨bs, r2, n2, m2⟩ := h2 _ e4
  refine ⟨_, Reads.dict ho hx.1 hd (as := as) (bs := bs) ?_ ?_, fun z hm => ?_, fun hm => ?_⟩
  · rw [List.map_fst_zip (by omega)]; exact r1
  · rw [List.map_snd_zip (by omega)]; exact r2
  · simp only [noLst] at z
    rw [noLstK_split hl, Bool.and_eq_true] at z
    rcases List.mem_append.mp hm with hm | hm
    · rcases List.mem_cons.mp hm with e | hm
      · subst e
        simp at hs
      · exact n1 z.1 hm
    · exact n2 z.2 hm
  · rcases List.mem_append.mp hm with hm | hm
    · rcases List.mem_cons.mp hm with e | hm
      · subst e
        simp at hs
      · exact m1 hm
    · exact m2 hm
theorem zip_fst_snd {α β : Type} : ∀ ps : List (α × β), (ps.map (·.1)).zip (ps.map (·.2)) = ps
  | [] => rfl
  | p :: ps => by simp only [List.map_cons, List.zip_cons_cons, zip_fst_snd ps]
theorem noL_app {p : PyData} {ps : List PyData} {as bs : List Addr} {L : Prop} (h1 : (noLst p = true → sysModules ∉ as) ∧ (sysModules ∈ as → L)) (h2 : (noLstL ps = true → sysModules ∉ bs) ∧ (sysModules ∈ bs → L)) : (noLstL (p :: ps) = true → sysModules ∉ as ++ bs) ∧ (sysModules ∈ as ++ bs → L) := ⟨fun z hm => by
  simp only [noLstL, Bool.and_eq_true] at z
  rcases List.mem_append.mp hm with hm | hm
  · exact h1.1 z.1 hm
  · exact h2.1 z.2 hm, fun hm => by
  rcases List.mem_append.mp hm with hm | hm
  · exact h1.2 hm
  · exact h2.2 hm⟩
mutual
theorem Is.reads (hK : X.K = G.K) (I : Inv X pins σ H s) : ∀ {d : D} {p : PyData} {v : V} {u : Value}, Is G g H d v → dat d = some p → RelV v u → RdA s u p
  | .non, p, v, u, h, e, r => by
    simp only [Is] at h
    subst h
    cases r
    cases e
    exact ⟨_, Reads.none, (fun _ h => nomatch h), (fun h => nomatch h)⟩
  | .bl b, p, v, u, h, e, r => by
    simp only [Is] at h
    subst h
    cases r
    cases e
    exact ⟨_, Reads.bool b, (fun _ h => nomatch h), (fun h => nomatch h)⟩
  | .int i, p, v, u, h, e, r => by
    simp only [Is] at h
    subst h
    obtain ⟨t, rfl⟩ := r
    cases e
    exact ⟨_, Reads.int i t, (fun _ h => nomatch h), (fun h => nomatch h)⟩
  | .str cs, p, v, u, h, e, r => by
    simp only [Is] at h
    obtain ⟨rfl, _⟩ := h
    obtain ⟨t, rfl⟩ := r
    cases e
    exact ⟨_, Reads.str _ t, (fun _ h => nomatch h), (fun h => nomatch h)⟩
  | .tup ds, p, v, u, h, e, r => by
    simp only [Is] at h
    obtain ⟨a, vs, rfl, q, rl⟩ := h
    cases r
    simp only [dat] at e
    cases e1 : datL ds with
    | none => rw [e1] at e; cases e
    | some ps =>
      rw [e1] at e
      cases e
      exact rd_tup hK I q.t fun us ru => Is.readsL hK I rl e1 ru
  | .tupw ds, p, v, u, h, e, r => by
    simp only [Is] at h
    obtain ⟨a, vs, rfl, q, rl⟩ := h
    cases r
    simp only [dat] at e
    cases e1 : datL ds with
    | none => rw [e1] at e; cases e
    | some ps =>
      rw [e1] at e
      cases e
      exact rd_tup hK I (.inl (.inl q)) fun us ru => Is.readsL hK I rl e1 ru
  | .lst ds, p, v, u, h, e, r => by
    simp only [Is] at h
    obtain ⟨a, vs, rfl, q, rl⟩ := h
    cases r
    simp only [dat] at e
    cases e1 : datL ds with
    | none => rw [e1] at e; cases e
    | some ps =>
      rw [e1] at e
      cases e
      exact rd_list hK I q.sq fun us ru => Is.readsL hK I rl e1 ru
  | .dic kvs, p, v, u, h, e, r => by
    simp only [Is] at h
    obtain ⟨a, o, rfl, q⟩ := h
    cases r
    simp only [dat] at e
    cases e1 : datK kvs with
    | none => rw [e1] at e; cases e
    | some ps =>
      rw [e1] at e
      cases e
      rcases q with ⟨ks, q, rl⟩ | ⟨ks, q, rl⟩
      · obtain ⟨h1, h2⟩ := Is.readsK hK I rl e1
        have := rd_dic I (.inr ⟨o, q⟩) (by rw [List.length_map, List.length_map]) h1 h2
        rw [zip_fst_snd] at this
        exact this
      · exact absurd (isT_keys rl.2 (datK_keys e1)).1 rl.1
  | .ins _ _, p, v, u, h, e, r => by cases e
  | .exn _ _, p, v, u, h, e, r => by cases e
  | .obj _, p, v, u, h, e, r => by cases e
  | .fn _, p, v, u, h, e, r => by cases e
  | .cls _, p, v, u, h, e, r => by cases e
  | .ty _, p, v, u, h, e, r => by cases e
theorem Is.readsL (hK : X.K = G.K) (I : Inv X pins σ H s) : ∀ {ds : List D} {ps : List PyData} {vs : List V} {us : List Value}, IsL G g H ds vs → datL ds = some ps → Vals vs us → RdAll s us ps
  | [], ps, [], us, h, e, r => by
    cases r
    cases e
    exact ⟨_, .nil, (fun _ h => nomatch h), (fun h => nomatch h)⟩
  | d :: ds, ps, v :: vs, us, h, e, r => by
    simp only [IsL] at h
    cases r with
    | cons r1 r2 =>
      simp only [datL] at e
      cases e1 : dat d with
      | none => rw [e1] at e; cases e
      | some p =>
        rw [e1] at e
        cases e2 : datL ds with
        | none => rw [e2] at e; cases e
        | some ps' =>
          rw [e2] at e
          cases e
          obtain ⟨as, q1, n1⟩ := Is.reads hK I h.1 e1 r1
          obtain ⟨bs, q2, n2⟩ := Is.readsL hK I h.2 e2 r2
          exact ⟨_, .cons q1 q2, noL_app n1 n2⟩
  | [], _, _ :: _, _, h, _, _ => by simp only [IsL] at h
  | _ :: _, _, [], _, h, _, _ => by simp only [IsL] at h
theorem Is.readsK (hK : X.K = G.K) (I : Inv X pins σ H s) : ∀ {kvs : List (D × D)} {ps : List (PyData × PyData)} {ks : List (Key × V)}, IsK G g H kvs ks → datK kvs = some ps →
    (∀ us, Vals (ks.map fun p => kV p.1) us → RdAll s us (ps.map (·.1))) ∧ ∀ us, Vals (ks.map (·.2)) us → RdAll s us (ps.map (·.2))
  | [], ps, [], h, e => by
    cases e
    exact ⟨fun us r => by cases r; exact ⟨_, .nil, (fun _ h => nomatch h), (fun h => nomatch h)⟩, fun us r => by cases r; exact ⟨_, .nil, (fun _ h => nomatch h), (fun h => nomatch h)⟩⟩
  | (k, d) :: kvs, ps, (q, v) :: ks, h, e => by
    simp only [IsK] at h
    simp only [datK] at e
    split at e
    · cases e1 : dat k with
      | none => rw [e1] at e; cases e
      | some pk =>
        rw [e1] at e
        cases e2 : dat d with
        | none => rw [e2] at e; cases e
        | some pd =>
          rw [e2] at e
          cases e3 : datK kvs with
          | none => rw [e3] at e; cases e
          | some ps' =>
            rw [e3] at e
            cases e
            obtain ⟨h1, h2⟩ := Is.readsK hK I h.2.2 e3
            refine ⟨fun us r => ?_, fun us r => ?_⟩
            · cases r with
              | cons r1 r2 =>
                obtain ⟨as, q1, n1⟩ := Is.reads hK I h.1 e1 r1
                obtain ⟨bs, q2, n2⟩ := h1 _ r2
                exact ⟨_, .cons q1 q2, noL_app n1 n2⟩
            · cases r with
              | cons r1 r2 =>
                obtain ⟨as, q1, n1⟩ := Is.reads hK I h.2.1 e2 r1
                obtain ⟨bs, q2, n2⟩ := h2 _ r2
                exact ⟨_, .cons q1 q2, noL_app n1 n2⟩
    · cases e
  | [], _, _ :: _, h, _ => by simp only [IsK] at h
  | (_, _) :: _, _, [], h, _ => by simp only [IsK] at h
end
theorem Vw.reads (hK : X.K = G.K) (I : Inv X pins σ H s) {d : D} {p : PyData} {v : V} {u : Value} (h : Vw G g H d v) (e : dat d = some p) (r : RelV v u) : RdA s u p := by
  rcases h with h | ⟨a, o, rfl, q, rfl⟩
  · exact Is.reads hK I h e r
  · cases r
    cases o with
    | lst ds =>
      obtain ⟨vs, q, rl⟩ := q
      simp only [MO.snap, dat] at e
      cases e1 : datL ds with
      | none => rw [e1] at e; cases e
      | some ps =>
        rw [e1] at e
        cases e
        exact rd_list hK I (.inl (.inl q)) fun us ru => Is.readsL hK I rl e1 ru
    | dic kvs =>
      simp only [MO.snap, dat] at e
      cases e1 : datK kvs with
      | none => rw [e1] at e; cases e
      | some ps =>
        rw [e1] at e
        cases e
        rcases q with ⟨ks, q, rl⟩ | ⟨ks, q, rl⟩
        · obtain ⟨h1, h2⟩ := Is.readsK hK I rl e1
          have := rd_dic I (.inl q) (by rw [List.length_map, List.length_map]) h1 h2
          rw [zip_fst_snd] at this
          exact this
        · exact absurd (isT_keys rl.2 (datK_keys e1)).1 rl.1
    | ins c fs => cases e
end
end PI
/-! PISnd8: operators, comparisons, subscripts, slices are sound. -/
namespace PI
open PySem PySem.Spec PyProof.Rows L2
section
variable {X : Cx} {G : Ga} {W : WX} {k : Nat} {g : Gs} {H : Hp} {pins : List (Addr × Obj)} {σ : St} {s : Shared}
/-- a new tuple in the run -/
theorem Inv.newTup (I : Inv X pins σ H s) {vs : List V} {us : List Value} (r : Vals vs us) (hz : vs.length ≤ sizeLine) :
    ∃ H', Inv X pins σ H' { s with heap := s.heap.push { cls := .type "tuple", data := .seq us.toArray } } ∧ Grow H H' ∧ ∀ K, SqS H' K s.heap.objs.size vs := by
  have hf : H s.heap.objs.size = none := I.hok.fresh (Nat.le_refl _)
  refine ⟨upd H s.heap.objs.size (.frz _ (.tup vs)), I.laid (t' := s.toks) (fun b u e => Heap.get?_push_of_some _ e) (Nat.le_refl _) ⟨Heap.get?_push_size _ rfl, hz, us, r, ⟨_, Heap.get?_push_size _ rfl, rfl, _, rfl⟩⟩, Grow.upd hf, fun K => .inl ⟨_, upd_same, rfl⟩⟩
theorem Inv.newLst (I : Inv X pins σ H s) {vs : List V} {us : List Value} (r : Vals vs us) (hz : vs.length ≤ sizeLine) :
    ∃ H', Inv X pins σ H' { s with heap := s.heap.push { cls := .type "list", data := .seq us.toArray } } ∧ Grow H H' ∧ H s.heap.objs.size = none ∧ H' s.heap.objs.size = some (.lst vs) :=
  ⟨_, I.lnew (t' := s.toks) r hz, Grow.upd I.fresh, I.fresh, upd_same⟩
theorem HRel.gn (R : HRel G g H M) {H' : Hp} (w : Grow H H') {ds : List D} {vs : List V} (q : IsL G g H ds vs) : IsL G g H' ds vs := q.next (R.grows w)
theorem isL_nil {ds : List D} (h : IsL G g H ds []) : ds = [] := List.length_eq_zero_iff.mp (IsL.length h)
theorem line_of {n : Nat} (h : okLen n = true) : n ≤ sizeLine := by
  have := of_decide_eq_true h
  rw [sizeLine_eq]; omega
theorem small_cmul {i j : Int} (h : (small i || small j) = true) : CMul i j := by
  rcases Bool.or_eq_true _ _ ▸ h with h | h
  · exact .inl (of_decide_eq_true h)
  · exact .inr (of_decide_eq_true h)
theorem ok_add (hK : X.K = G.K) : OpR X (binaryOp .Add) (rOp2 G fAdd) := by
  intro pins s σ H x y v u Q I rx ry ⟨g, M, d1, d2, r, R, v1, v2, e, q⟩
  unfold fAdd at e
  split at e
  · cases e
    cases vw_int v1
    cases vw_int v2
    exact op_add pins s σ H _ _ v u Q I rx ry ⟨_, _, rfl, rfl, q _ _ (Grow.refl _) rfl⟩
  · split at e
    · rename_i hl
      cases e
      obtain ⟨rfl, _⟩ := vw_str v1
      obtain ⟨rfl, _⟩ := vw_str v2
      have hl' := line_of hl
      refine op_add_str pins s σ H _ _ v u Q I rx ry ⟨_, _, rfl, rfl, by simpa [Str.length] using hl', q _ _ (Grow.refl _) ⟨?_, by simpa using hl'⟩⟩
      show V.str ⟨_ ++ _⟩ = V.str ⟨_⟩
      rw [List.append_toArray]
    · cases e
  · split at e
    · rename_i hl
      cases e
      obtain ⟨a, vs, rfl, q1, r1⟩ := vw_lst v1
      obtain ⟨b, ws, rfl, q2, r2⟩ := vw_lst v2
      rw [← hK] at q1 q2
      cases rx
      cases ry
      obtain ⟨its, rv1, ⟨⟨cls, dd, data, sl⟩, n, ho, hc, _, hd⟩, _⟩ := I.list q1
      obtain ⟨its2, rv2, ⟨⟨cls2, dd2, data2, sl2⟩, n2, ho2, hc2, _, hd2⟩, _⟩ := I.list q2
      simp only at hc hd hc2 hd2
      subst hc hd hc2 hd2
      have hl' := line_of hl
      have hz : vs.length + ws.length ≤ sizeLine := by rw [← r1.length, ← r2.length]; exact hl'
      have e : its.toArray ++ its2.toArray = (its ++ its2).toArray := by simp
      refine concat_meets ⟨_, ho, rfl⟩ ⟨_, ho2, rfl⟩ noFill_list_add seq_list_add PySem.F.slot_list_add PySem.F.entry_list_add (PySem.F.args_list_add_2 _ _) (list_addW a b its.toArray its2.toArray n n2 dd dd2 sl sl2 (by
        rw [List.size_toArray, List.size_toArray, ← rv1.length, ← rv2.length]; exact hz)) ⟨ho, ho2, ?_⟩
      rw [e]
      obtain ⟨H', I', w, f, h'⟩ := Inv.newLst I (rv1.append rv2) (by rw [List.length_append]; exact hz)
      exact ⟨.ref _, H', I', rfl, q _ H' w ⟨_, rfl, f, _, h', IsL.append (R.gn w r1) (R.gn w r2)⟩⟩
    · cases e
  · split at e
    · rename_i hl
      cases e
      obtain ⟨a, vs, rfl, q1, r1⟩ := vw_tup v1
      obtain ⟨b, ws, rfl, q2, r2⟩ := vw_tup v2
      cases rx
      cases ry
      have t1 := q1.t
      have t2 := q2.t
      rw [← hK] at t1 t2
      obtain ⟨its, rv1, p1, _⟩ := I.tuple t1
      obtain ⟨its2, rv2, p2, _⟩ := I.tuple t2
      have hl' := line_of hl
      have hz : vs.length + ws.length ≤ sizeLine := by rw [← r1.length, ← r2.length]; exact hl'
      by_cases hx : vs = []
      · subst hx
        cases rv1
        refine cat_tup0 p1 p2 ⟨.ref b, H, I, rfl, q _ H (Grow.refl _) ?_⟩
        show Is G g H (.tup _) _
        simp only [Is]
        refine ⟨b, ws, rfl, q2, ?_⟩
        rw [isL_nil r1, List.nil_append]
        exact r2
      · refine HT.cat_tup p1 p2 (fun z => hx (rv1.nil_iff.mp z)) (fun z => ⟨.ref a, H, I, rfl, q _ H (Grow.refl _) ?_⟩) (fun z => ?_) (by rw [← rv1.length, ← rv2.length]; exact hz)
        · have hw := rv2.nil_iff.mp z
          subst hw
          show Is G g H (.tup _) _
          simp only [Is]
          refine ⟨a, vs, rfl, q1, ?_⟩
          rw [isL_nil r2, List.append_nil]
          exact r1
        · obtain ⟨H', I', w, f⟩ := Inv.newTup I (rv1.append rv2) (by rw [List.length_append]; exact hz)
          refine ⟨.ref _, H', I', rfl, q _ H' w ?_⟩
          show Is G g H' (.tup _) _
          simp only [Is]
          exact ⟨_, _, rfl, f _, IsL.append (R.gn w r1) (R.gn w r2)⟩
    · cases e
  · cases e
theorem ok_sub : OpR X (binaryOp .Sub) (rOp2 G fSub) := by
  intro pins s σ H x y v u Q I rx ry ⟨g, M, d1, d2, r, R, v1, v2, e, q⟩
  unfold fSub at e
  split at e
  · cases e
    cases vw_int v1
    cases vw_int v2
    exact op_sub pins s σ H _ _ v u Q I rx ry ⟨_, _, rfl, rfl, q _ _ (Grow.refl _) rfl⟩
  · cases e
theorem isL_rep {n : Nat} {ds : List D} {vs : List V} (q : IsL G g H ds vs) : IsL G g H (List.replicate n ds).flatten (List.replicate n vs).flatten := by
  induction n with
  | zero => simp [IsL]
  | succ n ih =>
    rw [List.replicate_succ, List.replicate_succ, List.flatten_cons, List.flatten_cons]
    exact IsL.append q ih
theorem ok_mod : OpR X (binaryOp .Mod) (rOp2 G fMod) := by
  intro pins s σ H x y v u Q I rx ry ⟨g, M, d1, d2, r, R, v1, v2, e, q⟩
  unfold fMod at e
  split at e
  · split at e
    · rename_i hj
      cases e
      cases vw_int v1
      cases vw_int v2
      exact op_mod pins s σ H _ _ v u Q I rx ry ⟨_, _, rfl, rfl, hj, q _ _ (Grow.refl _) rfl⟩
    · cases e
  · cases e
theorem log_30 {j : Int} (h0 : 0 < j) (h : j < 10 ^ 30) : j.natAbs.log2 < 9000 := by
  have h1 : j.natAbs < 2 ^ 100 := by omega
  have := (Nat.log2_lt (by omega)).mpr h1
  omega
theorem ok_div : OpR X (binaryOp .FloorDiv) (rOp2 G fDiv) := by
  intro pins s σ H x y v u Q I rx ry ⟨g, M, d1, d2, r, R, v1, v2, e, q⟩
  unfold fDiv at e
  split at e
  · split at e
    · rename_i hj
      cases e
      cases vw_int v1
      cases vw_int v2
      exact op_fdivW pins s σ H _ _ v u Q I rx ry ⟨_, _, rfl, rfl, ⟨hj.1, log_30 hj.1 hj.2⟩, q _ _ (Grow.refl _) rfl⟩
    · cases e
  · cases e
theorem ok_pow : OpR X (binaryOp .Pow) (rOp2 G fPow) := by
  intro pins s σ H x y v u Q I rx ry ⟨g, M, d1, d2, r, R, v1, v2, e, q⟩
  unfold fPow at e
  split at e
  · split at e
    · rename_i hj
      cases e
      cases vw_int v1
      cases vw_int v2
      have hs := of_decide_eq_true hj.2.2.1
      exact op_pow pins s σ H _ _ v u Q I rx ry ⟨_, _, rfl, rfl, ⟨hj.1, by omega, by omega⟩, q _ _ (Grow.refl _) rfl⟩
    · cases e
  · cases e
end
end PI
/-! PISnd9: comparisons, in, subscripts are sound. -/
namespace PI
open PySem PySem.Spec PyProof.Rows L2
section
variable {X : Cx} {G : Ga} {W : WX} {k : Nat} {g : Gs} {H : Hp} {pins : List (Addr × Obj)} {σ : St} {s : Shared}
theorem bind2_some {x y : D} {γ : Type} {f : PyData → PyData → Option γ} {r : γ} (h : ((dat x).bind fun p => (dat y).bind fun q => f p q) = some r) : ∃ p q, dat x = some p ∧ dat y = some q ∧ f p q = some r := by
  cases h1 : dat x with
  | none => rw [h1] at h; cases h
  | some p =>
    rw [h1] at h
    cases h2 : dat y with
    | none => rw [h2] at h; cases h
    | some q =>
      rw [h2] at h
      exact ⟨p, q, rfl, rfl, h⟩
theorem str_beq (a b : List Nat) : ((⟨a.toArray⟩ : Str) == ⟨b.toArray⟩) = (a == b) := by
  rw [Bool.eq_iff_iff, beq_iff_eq, beq_iff_eq]
  exact ⟨fun h => by simpa using h, fun h => by rw [h]⟩
theorem fEq_data {x y : D} {r : Bool} (h : fEq x y = some r) : ∃ p q, dat x = some p ∧ dat y = some q ∧ eqOk p q = true ∧ r = PyData.eqv p q := by
  unfold fEq at h
  split at h
  · cases h; exact ⟨_, _, rfl, rfl, rfl, by simp [PyData.eqv]⟩
  · cases h; exact ⟨_, _, rfl, rfl, rfl, by simp [PyData.eqv, str_beq]⟩
  · cases h; exact ⟨_, _, rfl, rfl, rfl, by simp [PyData.eqv]⟩
  · obtain ⟨p, q, h1, h2, h⟩ := bind2_some h
    split at h
    · cases h; exact ⟨p, q, h1, h2, by assumption, rfl⟩
    · cases h
theorem units_min {A : Around} {a b : Nat} (hu : A.units + 64 < cLine) (h : decide (min a b ≤ 60) = true) : A.units + min a b < cLine := by
  have := of_decide_eq_true h
  omega
theorem ok_eq (c : XJ X G W) : OpR X (compareOp .Eq) (rCm G fEq) := by
  intro pins s σ H x y v u Q I rx ry ⟨g, M, d1, d2, r, R, v1, v2, e, q⟩
  obtain ⟨p, q', e1, e2, ok, rfl⟩ := fEq_data e
  obtain ⟨as, r1, _⟩ := Vw.reads c.K I v1 e1 rx
  obtain ⟨bs, r2, _⟩ := Vw.reads c.K I v2 e2 ry
  simp only [eqOk, Bool.and_eq_true] at ok
  exact SeqAt.eq_plain r1 r2 ok.1.1 ok.1.2 (units_min c.room.units ok.2) ⟨.bl _, H, I, rfl, q⟩
theorem ok_ne (c : XJ X G W) : OpR X (compareOp .NotEq) (rCm G fNe) := by
  intro pins s σ H x y v u Q I rx ry ⟨g, M, d1, d2, r, R, v1, v2, e, q⟩
  obtain ⟨r', e', rfl⟩ := Option.map_eq_some_iff.mp e
  obtain ⟨p, q', e1, e2, ok, rfl⟩ := fEq_data e'
  obtain ⟨as, r1, _⟩ := Vw.reads c.K I v1 e1 rx
  obtain ⟨bs, r2, _⟩ := Vw.reads c.K I v2 e2 ry
  simp only [eqOk, Bool.and_eq_true] at ok
  exact SeqAt.ne_plain r1 r2 ok.1.1 ok.1.2 (units_min c.room.units ok.2) ⟨.bl _, H, I, rfl, q⟩
theorem cmpOk_parts {p q : PyData} (h : cmpOk p q = true) : PySem.W.alike p q = true ∧ p ≠ .none ∧ p.depth ≤ 60 := by
  simp only [cmpOk, Bool.and_eq_true, decide_eq_true_eq] at h
  exact ⟨h.1.1, fun z => by rw [z] at h; exact absurd h.1.2 (by simp), h.2⟩
theorem units_cmp {A : Around} {p q : PyData} (hu : A.units + 64 < cLine) (h : p.depth ≤ 60) : A.units + min p.depth q.depth < cLine := by
  have := Nat.min_le_left p.depth q.depth
  omega
theorem cmp_ints (a b : Int) : cmpOk (.int a) (.int b) = true := by simp [cmpOk, PySem.W.alike, PyData.depth]
theorem fLt_data {x y : D} {r : Bool} (h : fLt x y = some r) : ∃ p q, dat x = some p ∧ dat y = some q ∧ cmpOk p q = true ∧ r = PySem.W.dataLt p q := by
  unfold fLt at h
  split at h
  · cases h; exact ⟨_, _, rfl, rfl, cmp_ints _ _, (PySem.W.dataLt_int _ _).symm⟩
  · obtain ⟨p, q, h1, h2, h⟩ := bind2_some h
    split at h
    · cases h; exact ⟨p, q, h1, h2, by assumption, rfl⟩
    · cases h
theorem fLe_data {x y : D} {r : Bool} (h : fLe x y = some r) : ∃ p q, dat x = some p ∧ dat y = some q ∧ cmpOk p q = true ∧ r = !PySem.W.dataLt q p := by
  unfold fLe at h
  split at h
  · cases h; exact ⟨_, _, rfl, rfl, cmp_ints _ _, by rw [PySem.W.dataLt_int, PySem.W.not_lt_int]⟩
  · obtain ⟨p, q, h1, h2, h⟩ := bind2_some h
    split at h
    · cases h; exact ⟨p, q, h1, h2, by assumption, rfl⟩
    · cases h
theorem fGe_data {x y : D} {r : Bool} (h : fGe x y = some r) : ∃ p q, dat x = some p ∧ dat y = some q ∧ cmpOk p q = true ∧ r = !PySem.W.dataLt p q := by
  unfold fGe at h
  split at h
  · cases h; exact ⟨_, _, rfl, rfl, cmp_ints _ _, by rw [PySem.W.dataLt_int, PySem.W.not_lt_int]⟩
  · obtain ⟨p, q, h1, h2, h⟩ := bind2_some h
    split at h
    · cases h; exact ⟨p, q, h1, h2, by assumption, rfl⟩
    · cases h
theorem ok_lt (c : XJ X G W) : OpR X (compareOp .Lt) (rCm G fLt) := by
  intro pins s σ H x y v u Q I rx ry ⟨g, M, d1, d2, r, R, v1, v2, e, q⟩
  obtain ⟨p, q', e1, e2, ok, rfl⟩ := fLt_data e
  obtain ⟨as, r1, _⟩ := Vw.reads c.K I v1 e1 rx
  obtain ⟨bs, r2, _⟩ := Vw.reads c.K I v2 e2 ry
  obtain ⟨k1, k2, k3⟩ := cmpOk_parts ok
  exact PySem.W.lt_data r1 r2 k1 k2 (units_cmp c.room.units k3) ⟨.bl _, H, I, rfl, q⟩
theorem ok_le (c : XJ X G W) : OpR X (compareOp .LtE) (rCm G fLe) := by
  intro pins s σ H x y v u Q I rx ry ⟨g, M, d1, d2, r, R, v1, v2, e, q⟩
  obtain ⟨p, q', e1, e2, ok, rfl⟩ := fLe_data e
  obtain ⟨as, r1, _⟩ := Vw.reads c.K I v1 e1 rx
  obtain ⟨bs, r2, _⟩ := Vw.reads c.K I v2 e2 ry
  obtain ⟨k1, k2, k3⟩ := cmpOk_parts ok
  exact PySem.W.le_data r1 r2 k1 k2 (units_cmp c.room.units k3) ⟨.bl _, H, I, rfl, q⟩
theorem ok_ge (c : XJ X G W) : OpR X (compareOp .GtE) (rCm G fGe) := by
  intro pins s σ H x y v u Q I rx ry ⟨g, M, d1, d2, r, R, v1, v2, e, q⟩
  obtain ⟨p, q', e1, e2, ok, rfl⟩ := fGe_data e
  obtain ⟨as, r1, _⟩ := Vw.reads c.K I v1 e1 rx
  obtain ⟨bs, r2, _⟩ := Vw.reads c.K I v2 e2 ry
  obtain ⟨k1, k2, k3⟩ := cmpOk_parts ok
  exact PySem.W.ge_data r1 r2 k1 k2 (units_cmp c.room.units k3) ⟨.bl _, H, I, rfl, q⟩
/-! in -/
/-- a dict with flat keys -/
theorem vw_dicK {kvs : List (D × D)} {v : V} (hk : (kvs.all (·.1.flatKey)) = true) (h : Vw G g H (.dic kvs) v) : ∃ a, v = .ref a ∧ ∃ ks, Rd H a (.dK ks) ∧ IsK G g H kvs ks := by
  obtain ⟨a, e, ⟨ks, q, r⟩ | ⟨ks, q, r⟩⟩ := vw_dic h
  · exact ⟨a, e, ks, q, r⟩
  · exact absurd (isT_keys r.2 hk).1 r.1
def keyD : D → Key
  | .int i => .inl i
  | .str cs => .inr ⟨cs.toArray⟩
  | _ => .inl 0
theorem keyD_of {d : D} {q : Key} (f : d.flatKey = true) (h : Is G g H d (kV q)) : q = keyD d := by
  rcases isK_key f h with ⟨i, rfl, rfl⟩ | ⟨cs, rfl, rfl⟩ <;> rfl
theorem keyEq_iff {a b : D} (fa : a.flatKey = true) (fb : b.flatKey = true) : keyEq a b = decide (keyD a = keyD b) := by
  cases a with
  | int i => cases b with
    | int j => simp only [keyEq, keyD]; rw [Bool.eq_iff_iff]; simp
    | str cs => simp only [keyEq, keyD]; rw [Bool.eq_iff_iff]; simp
    | _ => cases fb
  | str i => cases b with
    | int j => simp only [keyEq, keyD]; rw [Bool.eq_iff_iff]; simp
    | str cs => simp only [keyEq, keyD]; rw [Bool.eq_iff_iff]; simp
    | _ => cases fb
  | _ => cases fa
theorem kV_keyD {d : D} {v : V} (f : d.flatKey = true) (h : Is G g H d v) : v = kV (keyD d) := by
  cases d with
  | int i => exact h
  | str cs => simp only [Is] at h; exact h.1
  | _ => cases f
theorem dGet_val {k : D} (fk : k.flatKey = true) : ∀ {kvs : List (D × D)} {ks : List (Key × V)}, IsK G g H kvs ks → (kvs.all (·.1.flatKey)) = true →
    match dGet kvs k with
    | some d => ∃ v, valV ks (keyD k) = some v ∧ Is G g H d v
    | none => valV ks (keyD k) = none
  | [], [], _, _ => rfl
  | (k', d) :: r, (q, v) :: s, h, f => by
    simp only [IsK] at h
    rw [List.all_cons, Bool.and_eq_true] at f
    have eq := keyD_of f.1 h.1
    subst eq
    unfold dGet
    rw [List.find?_cons]
    dsimp only
    rw [keyEq_iff f.1 fk]
    by_cases e : keyD k' = keyD k
    · rw [decide_eq_true e]
      exact ⟨v, by rw [valV_pos e], h.2.1⟩
    · rw [decide_eq_false e]
      rw [valV_neg e]
      exact dGet_val fk h.2.2 f.2
  | [], _ :: _, h, _ => by simp only [IsK] at h
  | (_, _) :: _, [], h, _ => by simp only [IsK] at h
theorem vw_flat {d : D} {v : V} (f : d.flatKey = true) (h : Vw G g H d v) : Is G g H d v := by
  rcases h with h | ⟨a, o, rfl, q, rfl⟩
  · exact h
  · cases o <;> cases f
theorem flat_vals : ∀ {l : List D} {vs : List V}, (l.all D.flatKey) = true → IsL G g H l vs → vs = (l.map keyD).map kV
  | [], [], _, _ => rfl
  | d :: l, v :: vs, f, h => by
    simp only [IsL] at h
    rw [List.all_cons, Bool.and_eq_true] at f
    rw [List.map_cons, List.map_cons, ← flat_vals f.2 h.2, ← kV_keyD f.1 h.1]
  | [], _ :: _, _, h => by simp only [IsL] at h
  | _ :: _, [], _, h => by simp only [IsL] at h
theorem keyEqL_iff : ∀ {a b : List D}, (a.all D.flatKey) = true → (b.all D.flatKey) = true → keyEqL a b = decide (a.map keyD = b.map keyD)
  | [], [], _, _ => by simp [keyEqL]
  | x :: a, y :: b, h1, h2 => by
    rw [List.all_cons, Bool.and_eq_true] at h1 h2
    simp only [keyEqL]
    rw [keyEq_iff h1.1 h2.1, keyEqL_iff h1.2 h2.2, List.map_cons, List.map_cons, Bool.eq_iff_iff]
    simp
  | [], _ :: _, _, _ => by simp [keyEqL]
  | _ :: _, [], _, _ => by simp [keyEqL]
theorem isL_flat {l : List D} : ∀ {q : List Key}, IsL G g H l (q.map kV) → (l.all D.flatKey) = true ∧ l.map keyD = q := by
  induction l with
  | nil =>
    intro q h
    cases q with
    | nil => exact ⟨rfl, rfl⟩
    | cons _ _ => simp only [List.map_cons, IsL] at h
  | cons d l ih =>
    intro q h
    cases q with
    | nil => simp only [List.map_nil, IsL] at h
    | cons x q =>
      rw [List.map_cons] at h
      simp only [IsL] at h
      obtain ⟨h1, h2⟩ := ih h.2
      have hd : d.flatKey = true ∧ keyD d = x := by
        cases x with
        | inl i => cases d <;> simp only [Is, kV] at h <;> first
            | (cases h.1; exact ⟨rfl, rfl⟩)
            | (cases h.1.1; done)
            | (obtain ⟨⟨_, _, z, _⟩, _⟩ := h; cases z; done)
            | (obtain ⟨⟨_, z, _⟩, _⟩ := h; cases z; done)
            | (obtain ⟨⟨_, _, _, _, z, _⟩, _⟩ := h; cases z; done)
            | exact h.1.elim
            | (exact absurd h.1 (by intro z; cases z))
        | inr y => cases d <;> simp only [Is, kV] at h <;> first
            | (cases h.1.1; exact ⟨rfl, rfl⟩)
            | (cases h.1; done)
            | (obtain ⟨⟨_, _, z, _⟩, _⟩ := h; cases z; done)
            | (obtain ⟨⟨_, z, _⟩, _⟩ := h; cases z; done)
            | (obtain ⟨⟨_, _, _, _, z, _⟩, _⟩ := h; cases z; done)
            | exact h.1.elim
            | (exact absurd h.1 (by intro z; cases z))
      rw [List.all_cons, List.map_cons, h1, hd.1, hd.2, h2]
      exact ⟨rfl, rfl⟩
theorem dGet_valT {l : List D} (fk : (l.all D.flatKey) = true) : ∀ {kvs : List (D × D)} {ks : List (List Key × V)}, IsT G g H kvs ks →
    match dGet kvs (.tupw l) with
    | some d => ∃ v, valV ks (l.map keyD) = some v ∧ Is G g H d v
    | none => valV ks (l.map keyD) = none
  | [], [], _ => rfl
  | (k', d) :: r, (q, v) :: s, h => by
    cases k' with
    | tup a =>
      simp only [IsT] at h
      obtain ⟨f1, f2⟩ := isL_flat h.1
      unfold dGet
      rw [List.find?_cons]
      dsimp only
      simp only [keyEq]
      rw [keyEqL_iff f1 fk, f2]
      by_cases e : q = l.map keyD
      · rw [decide_eq_true e]
        exact ⟨v, by rw [valV_pos e], h.2.1⟩
      · rw [decide_eq_false e]
        rw [valV_neg e]
        exact dGet_valT fk h.2.2
    | _ => simp only [IsT] at h
  | [], _ :: _, h => by simp only [IsT] at h
  | (k, _) :: _, [], h => by cases k <;> simp only [IsT] at h
/-- an empty dict has no tuple key either -/
theorem emptyT (I : Inv X pins σ H s) {a : Addr} (h : Rd H a (.dK [])) : (a == sysModules) = false ∧ s.heap.DictOfH (tupleKind (mixKind X.prog X.w)) a [] := by
  obtain ⟨z, hs, vs, kv, o, es, ep, ho, hx, hd, hko, hp, nd⟩ := h.ok I.hok
  cases kv
  have e0 : es.toList = [] := by
    cases hes : es.toList with
    | nil => rfl
    | cons x r => rw [hes] at hp; cases hp
  exact ⟨hs, o, es, ep, ho, hx, hd, e0, fun x hx => by (cases hx), List.nodup_nil⟩
theorem isK_tups : ∀ {kvs : List (D × D)} {ks : List (Key × V)}, IsK G g H kvs ks → (kvs.all (·.1.isTup)) = true → kvs = [] ∧ ks = []
  | [], [], _, _ => ⟨rfl, rfl⟩
  | (k, d) :: r, (q, v) :: s, h, e => by
    cases k with
    | tup a =>
      simp only [IsK, Is] at h
      obtain ⟨⟨_, _, z, _⟩, _⟩ := h
      cases q <;> cases z
    | _ => simp [D.isTup] at e
  | [], _ :: _, h, _ => by simp only [IsK] at h
  | (_, _) :: _, [], h, _ => by simp only [IsK] at h
/-- a dict looked up -/
theorem dGet_of {kvs : List (D × D)} {kd : D} {a y : V} (hk : dOk kvs kd = true) (h1 : Vw G g H (.dic kvs) a) (h2 : Vw G g H kd y) :
    ∃ p, a = .ref p ∧ ((∃ o, DGet H p y o ∧ match dGet kvs kd with
      | some d => ∃ v, o = some v ∧ Is G g H d v
      | none => o = none) ∨ (kvs = [] ∧ Rd H p (.dK []) ∧ ∃ (k : List Key) (b : Addr), y = .ref b ∧ H b = some (.tup (k.map kV)))) := by
  unfold dOk at hk
  by_cases hf : (kd.flatKey && kvs.all (·.1.flatKey)) = true
  · rw [Bool.and_eq_true] at hf
    obtain ⟨p, rfl, ks, q, r⟩ := vw_dicK hf.2 h1
    have ey := kV_keyD hf.1 (vw_flat hf.1 h2)
    subst ey
    exact ⟨p, rfl, .inl ⟨valV ks (keyD kd), .inl ⟨ks, _, q, rfl, rfl⟩, dGet_val hf.1 r hf.2⟩⟩
  · rw [Bool.or_eq_true] at hk
    have hk := hk.resolve_left hf
    rw [Bool.and_eq_true] at hk
    cases kd with
    | tupw l =>
      have hl : (l.all D.flatKey) = true := hk.1
      obtain ⟨b, vs, rfl, hb, il⟩ := vw_tupw h2
      have ev := flat_vals hl il
      subst ev
      obtain ⟨p, rfl, ⟨ks, q, r⟩ | ⟨ks, q, ne, r⟩⟩ := vw_dic h1
      · obtain ⟨e1, e2⟩ := isK_tups r hk.2
        subst e2
        exact ⟨p, rfl, .inr ⟨e1, q, _, b, rfl, hb⟩⟩
      · exact ⟨p, rfl, .inl ⟨valV ks (l.map keyD), .inr ⟨ks, _, b, q, rfl, hb, rfl⟩, dGet_valT hl r⟩⟩
    | _ => cases hk.1
theorem fIn_flat {x : D} {ys : List D} {r : Bool} (h : ((dat x).bind fun p => (datL ys).bind fun qs => if inOk p qs then some (qs.any fun q => PyData.eqv q p) else none) = some r) :
    ∃ p qs, dat x = some p ∧ datL ys = some qs ∧ p.plain = true ∧ PyData.plainAll qs = true ∧ min (PyData.depthAll qs) p.depth ≤ 60 ∧ r = qs.any fun q => PyData.eqv q p := by
  cases h1 : dat x with
  | none => rw [h1] at h; cases h
  | some p =>
    rw [h1] at h
    cases h2 : datL ys with
    | none => rw [h2] at h; cases h
    | some qs =>
      rw [h2] at h
      have h : (if inOk p qs = true then some (qs.any fun q => PyData.eqv q p) else none) = some r := h
      split at h
      · rename_i ok
        simp only [inOk, Bool.and_eq_true, decide_eq_true_eq] at ok
        cases h
        exact ⟨p, qs, rfl, rfl, ok.1.1, ok.1.2, ok.2, rfl⟩
      · cases h
theorem in_some (c : XJ X G W) {g : Gs} {M : MH} {d1 d2 : D} {x y : V} {v u : Value} {r : Bool} (I : Inv X pins σ H s) (R : HRel G g H M) (rx : RelV x v) (ry : RelV y u) (v1 : Vw G g H d1 x) (v2 : Vw G g H d2 y) (e : fIn d1 d2 = some r) {Q : Bool → Hp → Prop} (q : Q r H) :
    wpAny (model X.prog X.w) X.A (compareOp .In v u) (EP X pins σ fun z H' => ∃ b, z = .bl b ∧ Q b H') X.xe s ∧ wpAny (model X.prog X.w) X.A (compareOp .NotIn v u) (EP X pins σ fun z H' => ∃ b, z = .bl (!b) ∧ Q b H') X.xe s := by
  have hu := c.room.units
  unfold fIn at e
  split at e
  · cases e
    obtain ⟨rfl, _⟩ := vw_str v1
    obtain ⟨rfl, _⟩ := vw_str v2
    exact ⟨op_in_sign pins s σ H _ _ v u _ I rx ry ⟨_, _, rfl, rfl, _, rfl, by simpa using q⟩, op_notIn_sign pins s σ H _ _ v u _ I rx ry ⟨_, _, rfl, rfl, decide _, rfl, by simpa using q⟩⟩
  · obtain ⟨p, qs, e1, e2, k1, k2, k3, rfl⟩ := fIn_flat e
    obtain ⟨as, r1, _⟩ := Vw.reads c.K I v1 e1 rx
    obtain ⟨bs, r2, _⟩ := Vw.reads c.K I v2 (p := .list qs) (by simp [dat, e2]) ry
    exact ⟨SeqAt.in_list_data r2 r1 k2 k1 (by omega) ⟨.bl _, H, I, rfl, _, rfl, q⟩, SeqAt.notIn_list_data r2 r1 k2 k1 (by omega) ⟨.bl _, H, I, rfl, _, rfl, q⟩⟩
  · obtain ⟨p, qs, e1, e2, k1, k2, k3, rfl⟩ := fIn_flat e
    obtain ⟨as, r1, _⟩ := Vw.reads c.K I v1 e1 rx
    obtain ⟨bs, r2, _⟩ := Vw.reads c.K I v2 (p := .tuple qs) (by simp [dat, e2]) ry
    exact ⟨SeqAt.in_tuple_data r2 r1 k2 k1 (by omega) ⟨.bl _, H, I, rfl, _, rfl, q⟩, SeqAt.notIn_tuple_data r2 r1 k2 k1 (by omega) ⟨.bl _, H, I, rfl, _, rfl, q⟩⟩
  · obtain ⟨p, qs, e1, e2, k1, k2, k3, rfl⟩ := fIn_flat e
    obtain ⟨as, r1, _⟩ := Vw.reads c.K I v1 e1 rx
    obtain ⟨bs, r2, _⟩ := Vw.reads c.K I v2 (p := .tuple qs) (by simp [dat, e2]) ry
    exact ⟨SeqAt.in_tuple_data r2 r1 k2 k1 (by omega) ⟨.bl _, H, I, rfl, _, rfl, q⟩, SeqAt.notIn_tuple_data r2 r1 k2 k1 (by omega) ⟨.bl _, H, I, rfl, _, rfl, q⟩⟩
  · split at e
    · rename_i kvs hf
      cases e
      obtain ⟨a, rfl, h⟩ := dGet_of hf v2 v1
      cases ry
      rcases h with ⟨o, dg, h⟩ | ⟨e0, hr, kk, b, rfl, hb⟩
      · have eo : o.isSome = (dGet kvs d1).isSome := by
          split at h
          · rename_i d' e'
            obtain ⟨w, e1, _⟩ := h
            rw [e1, e'] <;> rfl
          · rename_i e'
            rw [h, e'] <;> rfl
        rw [← eo] at q
        exact ⟨d_in (by omega) I dg rx fun s' I' => ⟨.bl _, H, I', rfl, _, rfl, q⟩, d_notIn (by omega) I dg rx fun s' I' => ⟨.bl _, H, I', rfl, _, rfl, q⟩⟩
      · subst e0
        cases rx
        obtain ⟨hd, dd⟩ := emptyT I hr
        exact ⟨wpAny_in_heap (tupleKind_room_in1 (by omega)) (key_of I.hok hb) hd dd ⟨.bl _, H, I.tok _, rfl, _, rfl, q⟩, wpAny_notIn_heap (tupleKind_room_in1 (by omega)) (key_of I.hok hb) hd dd ⟨.bl _, H, I.tok _, rfl, _, rfl, q⟩⟩
    · cases e
  · cases e
end
end PI
/-! PISndA: in, subscripts, slices, chains of comparisons are sound. -/
namespace PI
open PySem PySem.Spec PyProof.Rows L2
section
variable {X : Cx} {G : Ga} {W : WX} {k : Nat} {g : Gs} {H : Hp} {pins : List (Addr × Obj)} {σ : St} {s : Shared}
theorem EP.imp {Q Q' : VK} {u : Value} {s : Shared} (h : EP X pins σ Q u s) (w : ∀ v H, Q v H → Q' v H) : EP X pins σ Q' u s := by
  obtain ⟨v, H', I, r, q⟩ := h
  exact ⟨v, H', I, r, w _ _ q⟩
theorem ok_in (c : XJ X G W) : OpR X (compareOp .In) (rCm G fIn) := by
  intro pins s σ H x y v u Q I rx ry ⟨g, M, d1, d2, r, R, v1, v2, e, q⟩
  refine thn (in_some c I R rx ry v1 v2 e (Q := fun b H' => Q (.bl b) H') q).1 fun w s' h => EP.imp h fun v H' ⟨b, ev, q⟩ => by rw [ev]; exact q
/-! subscripts -/
theorem ixD_eq (n : Nat) (i : Int) : ixD n i = L2.ixN n i := rfl
theorem atD_is {ds : List D} {vs : List V} {i : Int} {d : D} (q : IsL G g H ds vs) (h : atD ds i = some d) : ∃ v, atI vs i = some v ∧ Is G g H d v := by
  unfold atD at h
  unfold atI
  rw [← q.length, ← ixD_eq]
  cases e : ixD ds.length i with
  | none => rw [e] at h; cases h
  | some j =>
    rw [e] at h
    exact q.get h
theorem ok_ix (c : XJ X G W) : IxR X (rOp2 G fIx) := by
  intro value slice pins s σ H x y v u Q I rx ry ⟨g, M, d1, d2, r, R, v1, v2, e, q⟩ hs
  have hu := c.room.units
  unfold fIx at e
  split at e
  · obtain ⟨d, e', rfl⟩ := Option.map_eq_some_iff.mp e
    obtain ⟨a, vs, rfl, q1, r1⟩ := vw_lst v1
    cases vw_int v2
    obtain ⟨w, h1, h2⟩ := atD_is r1 e'
    exact ix_list value slice pins s σ H _ _ v u Q I rx ry ⟨a, vs, _, w, rfl, rfl, by rw [c.K]; exact q1, h1, q _ _ (Grow.refl _) h2⟩ hs
  · obtain ⟨d, e', rfl⟩ := Option.map_eq_some_iff.mp e
    obtain ⟨a, vs, rfl, q1, r1⟩ := vw_tup v1
    cases vw_int v2
    obtain ⟨w, h1, h2⟩ := atD_is r1 e'
    exact ix_tup value slice pins s σ H _ _ v u Q I rx ry ⟨a, vs, _, w, rfl, rfl, by rw [c.K]; exact q1.t, h1, q _ _ (Grow.refl _) h2⟩ hs
  · obtain ⟨d, e', rfl⟩ := Option.map_eq_some_iff.mp e
    obtain ⟨a, vs, rfl, q1, r1⟩ := vw_tupw v1
    cases vw_int v2
    obtain ⟨w, h1, h2⟩ := atD_is r1 e'
    exact ix_tup value slice pins s σ H _ _ v u Q I rx ry ⟨a, vs, _, w, rfl, rfl, .inl (.inl q1), h1, q _ _ (Grow.refl _) h2⟩ hs
  · obtain ⟨d, e', rfl⟩ := Option.map_eq_some_iff.mp e
    obtain ⟨rfl, hl⟩ := vw_str v1
    cases vw_int v2
    refine ix_str value slice pins s σ H _ _ v u Q I rx ry ⟨_, _, d, rfl, rfl, by simpa [Str.length] using hl, e', q _ _ (Grow.refl _) ?_⟩ hs
    refine ⟨rfl, ?_⟩
    rw [sizeLine_eq]
    show 1 ≤ 16777216
    omega
  · split at e
    · rename_i hf
      obtain ⟨d, e', rfl⟩ := Option.map_eq_some_iff.mp e
      obtain ⟨a, rfl, h⟩ := dGet_of hf v1 v2
      cases rx
      rcases h with ⟨o, dg, h⟩ | ⟨e0, _⟩
      · rw [e'] at h
        obtain ⟨w, rfl, iw⟩ := h
        exact tail_any (dict_typeIs I dg) PySem.F.slot_dict_getitem.lookup (d_getItem (by omega) I dg ry fun w' s3 I3 rw' => ⟨w, H, I3, rw', q _ _ (Grow.refl _) iw⟩) hs
      · subst e0
        cases e'
    · cases e
  · cases e
/-! slices -/
def tO (G : Ga) (W : WX) (m : EM (Option Int)) : TO := fun σ H Q => ∃ g e M, Rel G g σ H e M ∧
  PostR G W g H σ (m e M) fun o e' M' => ∀ (H' : Hp) (g' : Gs), Next g H g' H' → Rel G g' σ H' e' M' → Q o H'
abbrev POI (X : Cx) (G : Ga) (W : WX) (e : Option Expr) (m : EM (Option Int)) : Prop := PO X e (tO G W m)
theorem PO.imp {e : Option Expr} {t t' : TO} (h : PO X e t) (w : ∀ σ H Q, t' σ H Q → t σ H Q) : PO X e t' := ⟨fun pins s σ H Q I q => h.run pins s σ H Q I (w σ H Q q)⟩
theorem okNoPart : POI X G W none eNoPart := PO.imp po_none fun σ H Q ⟨g, e, M, R, h⟩ => h H g (Next.refl _ _) R
theorem okPart {a : Expr} {m : EM PV} (ha : PPI X G W a m) : POI X G W (some a) (ePart m) :=
  PO.imp (po_some ha) fun σ H Q ⟨g, e, M, R, h⟩ => ⟨g, e, M, R, (PostR.bind h).mono fun p e1 M1 _ k1 x H1 g1 N1 R1 p1 => by
    obtain ⟨d, k2, q⟩ := now_ok R1 p1 (PostR.bind (k1.from N1))
    cases d with
    | int i => exact ⟨i, vw_int q, k2 H1 g1 N1 R1⟩
    | _ => exact False.elim k2⟩
theorem cutEnd_eq (n d : Nat) (o : Option Int) : cutEnd n d o = HT.sIx n d o := by cases o <;> rfl
theorem cut_is {ds : List D} {vs : List V} (lo hi : Option Int) (q : IsL G g H ds vs) : IsL G g H (cutD ds lo hi) (cutV vs lo hi) := by
  unfold cutD cutV
  simp only [cutEnd_eq, q.length]
  exact IsL.take _ (IsL.drop _ q)
def rCut (G : Ga) : V → Option Int → Option Int → Hp → VK → Prop := fun x lo hi H Q => ∃ g M d r, HRel G g H M ∧ Vw G g H d x ∧ fCut d lo hi = some r ∧ ∀ v H', Grow H H' → NewSV G g H H' v r → Q v H'
theorem cut_len (n : Nat) (lo hi : Option Int) : HT.sIx n 0 lo = 0 ∧ HT.sIx n n hi = n → ∀ (ds : List D), ds.length = n → cutD ds lo hi = ds := fun ⟨h1, h2⟩ ds e => by
  unfold cutD
  simp only [cutEnd_eq, e, h1, h2]
  simp [← e]
theorem ok_cut (c : XJ X G W) : SlR X (rCut G) := by
  intro pins s σ H x v vl vu lo hi sl Q I rx hs pl pu ⟨g, M, d, r, R, v1, e, q⟩
  unfold fCut at e
  split at e
  · cases e
    obtain ⟨a, vs, rfl, q1, r1⟩ := vw_lst v1
    exact sl_list pins s σ H _ v vl vu lo hi sl Q I rx hs pl pu ⟨a, vs, rfl, by rw [c.K]; exact q1, fun p hp => q _ _ (Grow.upd hp) ⟨p, rfl, hp, _, upd_same, (cut_is lo hi r1).next (R.grows (Grow.upd hp))⟩⟩
  · cases e
    obtain ⟨a, vs, rfl, q1, r1⟩ := vw_tup v1
    cases rx
    have t1 := q1.t
    rw [← c.K] at t1
    obtain ⟨its, rv, ht, hz⟩ := I.tuple t1
    have hlen : its.toArray.size = vs.length := by rw [List.size_toArray]; exact rv.length.symm
    refine ⟨"tuple", _, PyProof.Rows.slot_tuple_getitem.lookup, ht.typeIs, ?_⟩
    by_cases hw : HT.sIx vs.length 0 lo = 0 ∧ HT.sIx vs.length vs.length hi = vs.length
    · refine getItem_tuple_whole ht hs pl pu (by rw [hlen]; exact hw) ⟨.ref a, H, I, rfl, q _ H (Grow.refl _) ?_⟩
      rw [cut_len vs.length lo hi hw _ r1.length]
      show Is G g H (.tup _) _
      simp only [Is]
      exact ⟨a, vs, rfl, q1, r1⟩
    · refine HT.getItem_tuple_cut ht hs pl pu (by rw [hlen]; exact hw) ?_ (by rw [hlen]; exact hz)
      rw [hlen]
      obtain ⟨H', I', w, f⟩ := Inv.newTup I (vs := cutV vs lo hi) ((rv.drop (HT.sIx vs.length 0 lo)).take (HT.sIx vs.length vs.length hi - HT.sIx vs.length 0 lo)) (Nat.le_trans (cutV_length vs lo hi) hz)
      refine ⟨.ref _, H', I', rfl, q _ H' w ?_⟩
      show Is G g H' (.tup _) _
      simp only [Is]
      exact ⟨_, _, rfl, f _, (cut_is lo hi r1).next (R.grows w)⟩
  · cases e
    obtain ⟨rfl, hl⟩ := vw_str v1
    refine sl_str pins s σ H _ v vl vu lo hi sl Q I rx hs pl pu ⟨_, rfl, by simpa [Str.length] using hl, q _ H (Grow.refl _) ?_⟩
    unfold cutS
    refine ⟨?_, ?_⟩
    · unfold cutD
      simp [cutEnd_eq, Str.length]
    · unfold cutD
      rw [List.length_take, List.length_drop]
      omega
  · cases e
theorem okCut (c : XJ X G W) {a : Expr} {lo hi : Option Expr} {p2 pos : Pos} {m : EM PV} {ml mh : EM (Option Int)} (ha : PPI X G W a m) (hl : POI X G W lo ml) (hh : POI X G W hi mh) : PEI X G W (.Subscript a (.Slice lo hi none p2) pos) (eCut m ml mh) :=
  PE.imp (pe_slice (ok_cut c) ha hl hh) fun σ H Q ⟨g, e, M, R, h⟩ => ⟨g, e, M, R, (PostR.bind h).mono fun p e1 M1 _ k1 x H1 g1 N1 R1 p1 => ⟨g1, e1, M1, R1, ((PostR.bind k1).from N1).mono fun l e2 M2 _ k2 H2 g2 N2 R2 => ⟨g2, e2, M2, R2, (((PostR.bind k2).from N1).from N2).mono fun u e3 M3 _ k3 H3 g3 N3 R3 => by
    have k4 := ((k3.from N1).from N2).from N3
    obtain ⟨d, k5, q⟩ := now_ok R3 ((p1.next N2).next N3) (PostR.bind k4)
    obtain ⟨r, er, k6⟩ := lift_ok k5
    exact ⟨g3, M3, d, r, R3.toHRel, q, er, fun v H' w n => k6 v H' g3 (((N1.trans N2).trans N3).trans (R3.toHRel.grows w)) (R3.grow w) (n.sv R3 w)⟩⟩⟩⟩
/-! chains -/
theorem okChain {op op' : CmpOp} {f f' : D → D → Option Bool} {a b d : Expr} {pos : Pos} {ma mb md : EM PV} (ho : OpR X (compareOp op) (rCm G f)) (ho' : OpR X (compareOp op') (rCm G f')) (ha : PPI X G W a ma) (hb : PPI X G W b mb) (hd : PPI X G W d md)
    (hm : lastMarks [op, op'] [b, d] = false := by with_unfolding_all rfl) : PTI X G W (.Compare a [op, op'] [b, d] pos) (t3 f f' ma mb md) :=
  PT.imp (pt_chain ho ho' ha hb hd hm) fun σ H Q ⟨g, e, M, R, h⟩ => ⟨g, e, M, R, (PostR.bind h).mono fun p e1 M1 _ k1 x H1 g1 N1 R1 p1 => ⟨g1, e1, M1, R1, ((PostR.bind k1).from N1).mono fun q e2 M2 _ k2 y H2 g2 N2 R2 q2 => by
    have k3 := (k2.from N1).from N2
    obtain ⟨d1, k4, w1⟩ := now_ok R2 (p1.next N2) (PostR.bind k3)
    obtain ⟨d2, k5, w2⟩ := now_ok R2 q2 (PostR.bind k4)
    obtain ⟨r, er, k6⟩ := lift_ok (PostR.bind k5)
    refine ⟨g2, M2, d1, d2, r, R2.toHRel, w1, w2, er, r, rfl, ?_⟩
    cases r with
    | false => exact ⟨false, rfl, k6 H2 g2 (N1.trans N2) R2⟩
    | true =>
      refine ⟨g2, e2, M2, R2, (PostR.bind k6).mono fun z e3 M3 _ k7 w H3 g3 N3 R3 z3 => ?_⟩
      have k8 := k7.from N3
      obtain ⟨d3, k9, w3⟩ := now_ok R3 (q2.next N3) (PostR.bind k8)
      obtain ⟨d4, kA, w4⟩ := now_ok R3 z3 (PostR.bind k9)
      obtain ⟨r', er', kB⟩ := lift_ok kA
      exact ⟨g3, M3, d3, d4, r', R3.toHRel, w3, w4, er', r', rfl, kB H3 g3 ((N1.trans N2).trans N3) R3⟩⟩⟩
theorem okChainV {op op' : CmpOp} {f f' : D → D → Option Bool} {a b d : Expr} {pos : Pos} {ma mb md : EM PV} (ho : OpR X (compareOp op) (rCm G f)) (ho' : OpR X (compareOp op') (rCm G f')) (ha : PPI X G W a ma) (hb : PPI X G W b mb) (hd : PPI X G W d md)
    (hm : lastMarks [op, op'] [b, d] = false := by with_unfolding_all rfl) : PEI X G W (.Compare a [op, op'] [b, d] pos) (eBool (t3 f f' ma mb md)) :=
  PE.imp (pe_chain ho ho' ha hb hd hm) fun σ H Q ⟨g, e, M, R, h⟩ => ⟨g, e, M, R, (PostR.bind (PostR.bind h)).mono fun p e1 M1 _ k1 x H1 g1 N1 R1 p1 => ⟨g1, e1, M1, R1, ((PostR.bind k1).from N1).mono fun q e2 M2 _ k2 y H2 g2 N2 R2 q2 => by
    have k3 := (k2.from N1).from N2
    obtain ⟨d1, k4, w1⟩ := now_ok R2 (p1.next N2) (PostR.bind k3)
    obtain ⟨d2, k5, w2⟩ := now_ok R2 q2 (PostR.bind k4)
    obtain ⟨r, er, k6⟩ := lift_ok (PostR.bind k5)
    refine ⟨g2, M2, d1, d2, r, R2.toHRel, w1, w2, er, r, rfl, ?_⟩
    cases r with
    | false => exact k6 (.bl false) H2 g2 (N1.trans N2) R2 rfl
    | true =>
      refine ⟨g2, e2, M2, R2, (PostR.bind k6).mono fun z e3 M3 _ k7 w H3 g3 N3 R3 z3 => ?_⟩
      have k8 := k7.from N3
      obtain ⟨d3, k9, w3⟩ := now_ok R3 (q2.next N3) (PostR.bind k8)
      obtain ⟨d4, kA, w4⟩ := now_ok R3 z3 (PostR.bind k9)
      obtain ⟨r', er', kB⟩ := lift_ok kA
      exact ⟨g3, M3, d3, d4, r', R3.toHRel, w3, w4, er', kB (.bl r') H3 g3 ((N1.trans N2).trans N3) R3 rfl⟩⟩⟩
end
end PI
/-! PISndB: built-in functions are sound. -/
namespace PI
open PySem PySem.Spec PyProof.Rows L2
section
variable {X : Cx} {G : Ga} {W : WX} {k : Nat} {g : Gs} {H : Hp} {pins : List (Addr × Obj)} {σ : St} {s : Shared}
theorem blsD_vals : ∀ {ds : List D} {bs : List Bool} {vs : List V}, blsD ds = some bs → IsL G g H ds vs → vs = bs.map V.bl
  | [], _, [], e, _ => by cases e; rfl
  | d :: ds, bs, v :: vs, e, h => by
    cases d with
    | bl b =>
      simp only [blsD] at e
      obtain ⟨bs', e', rfl⟩ := Option.map_eq_some_iff.mp e
      simp only [IsL, Is] at h
      rw [List.map_cons, ← blsD_vals e' h.2, h.1]
    | _ => cases e
  | [], _, _ :: _, _, h => by simp only [IsL] at h
  | _ :: _, _, [], _, h => by simp only [IsL] at h
theorem intsD_vals : ∀ {ds : List D} {ns : List Int} {vs : List V}, intsD ds = some ns → IsL G g H ds vs → vs = ns.map V.int
  | [], _, [], e, _ => by cases e; rfl
  | d :: ds, bs, v :: vs, e, h => by
    cases d with
    | int b =>
      simp only [intsD] at e
      obtain ⟨bs', e', rfl⟩ := Option.map_eq_some_iff.mp e
      simp only [IsL, Is] at h
      rw [List.map_cons, ← intsD_vals e' h.2, h.1]
    | _ => cases e
  | [], _, _ :: _, _, h => by simp only [IsL] at h
  | _ :: _, _, [], _, h => by simp only [IsL] at h
theorem ok_len (c : XJ X G W) : CallR X (.builtin "len") (rB G fLen) := by
  intro pins s σ H xs us Q I r ⟨g, M, ds, rr, R, w, e, q⟩
  unfold fLen at e
  split at e
  · cases e
    obtain ⟨v, rfl, h⟩ := vwl1 w
    obtain ⟨a, vs, rfl, q1, r1⟩ := vw_lst h
    exact call_len_seq pins s σ H _ us Q I r ⟨a, vs, rfl, .inl (by rw [c.K]; exact q1), q _ _ (Grow.refl _) (congrArg (fun n : Nat => V.int n) r1.length.symm)⟩
  · cases e
    obtain ⟨v, rfl, h⟩ := vwl1 w
    obtain ⟨a, vs, rfl, q1, r1⟩ := vw_tup h
    exact call_len_seq pins s σ H _ us Q I r ⟨a, vs, rfl, .inr (by rw [c.K]; exact q1.t), q _ _ (Grow.refl _) (congrArg (fun n : Nat => V.int n) r1.length.symm)⟩
  · cases e
    obtain ⟨v, rfl, h⟩ := vwl1 w
    obtain ⟨a, vs, rfl, q1, r1⟩ := vw_tupw h
    exact call_len_seq pins s σ H _ us Q I r ⟨a, vs, rfl, .inr (.inl (.inl q1)), q _ _ (Grow.refl _) (congrArg (fun n : Nat => V.int n) r1.length.symm)⟩
  · cases e
    obtain ⟨v, rfl, h⟩ := vwl1 w
    obtain ⟨rfl, hl⟩ := vw_str h
    refine call_len_str pins s σ H _ us Q I r ⟨_, rfl, by simpa [Str.length] using hl, q _ _ (Grow.refl _) ?_⟩
    show V.int _ = V.int _
    simp [Str.length]
  · split at e
    · rename_i hf
      cases e
      obtain ⟨v, rfl, h⟩ := vwl1 w
      obtain ⟨a, rfl, ks, q1, r1⟩ := vw_dicK hf h
      rw [Vals.ref1 r]
      exact d_len I q1 fun t s' I' => ⟨.int ks.length, H, I', ⟨t, rfl⟩, q _ _ (Grow.refl _) (congrArg (fun n : Nat => V.int n) (isK_len r1).symm)⟩
    · cases e
  · cases e
theorem ok_all (c : XI X G W k) : CallR X (.builtin "all") (rB G fAll) := by
  intro pins s σ H xs us Q I r ⟨g, M, ds, rr, R, w, e, q⟩
  unfold fAll at e
  split at e
  · obtain ⟨bs, e', rfl⟩ := Option.map_eq_some_iff.mp e
    obtain ⟨v, rfl, h⟩ := vwl1 w
    obtain ⟨a, vs, rfl, q1, r1⟩ := vw_lst h
    have := blsD_vals e' r1
    subst this
    exact cr_all c.calm pins s σ H _ us Q I r ⟨a, bs, rfl, by rw [c.K]; exact q1, q _ _ (Grow.refl _) rfl⟩
  · cases e
theorem fold_min (n : Int) : ∀ ns : List Int, ns.foldl min n ∈ n :: ns ∧ ∀ y ∈ n :: ns, ns.foldl min n ≤ y := by
  intro ns
  induction ns generalizing n with
  | nil => simp
  | cons m ns ih =>
    obtain ⟨h1, h2⟩ := ih (min n m)
    rw [List.foldl_cons]
    refine ⟨?_, fun y hy => ?_⟩
    · rcases List.mem_cons.mp h1 with h | h
      · rw [h]
        rcases Int.le_total n m with z | z
        · rw [Int.min_eq_left z]; simp
        · rw [Int.min_eq_right z]; simp
      · simp [h]
    · have h0 := h2 (min n m) (List.mem_cons_self ..)
      rcases List.mem_cons.mp hy with rfl | hy
      · exact Int.le_trans h0 (Int.min_le_left _ _)
      · rcases List.mem_cons.mp hy with rfl | hy
        · exact Int.le_trans h0 (Int.min_le_right _ _)
        · exact h2 y (List.mem_cons_of_mem _ hy)
theorem fold_max (n : Int) : ∀ ns : List Int, ns.foldl max n ∈ n :: ns ∧ ∀ y ∈ n :: ns, y ≤ ns.foldl max n := by
  intro ns
  induction ns generalizing n with
  | nil => simp
  | cons m ns ih =>
    obtain ⟨h1, h2⟩ := ih (max n m)
    rw [List.foldl_cons]
    refine ⟨?_, fun y hy => ?_⟩
    · rcases List.mem_cons.mp h1 with h | h
      · rw [h]
        rcases Int.le_total n m with z | z
        · rw [Int.max_eq_right z]; simp
        · rw [Int.max_eq_left z]; simp
      · simp [h]
    · have h0 := h2 (max n m) (List.mem_cons_self ..)
      rcases List.mem_cons.mp hy with rfl | hy
      · exact Int.le_trans (Int.le_max_left _ _) h0
      · rcases List.mem_cons.mp hy with rfl | hy
        · exact Int.le_trans (Int.le_max_right _ _) h0
        · exact h2 y (List.mem_cons_of_mem _ hy)
theorem ok_min (c : XI X G W k) : CallR X (.builtin "min") (rB G fMin) := by
  intro pins s σ H xs us Q I r ⟨g, M, ds, rr, R, w, e, q⟩
  unfold fMin at e
  split at e
  · cases e
    obtain ⟨v, u, rfl, h1, h2⟩ := vwl2 w
    cases vw_int h1
    cases vw_int h2
    exact call_min2 c.calm pins s σ H _ us Q I r ⟨_, _, rfl, q _ _ (Grow.refl _) rfl⟩
  · split at e
    · rename_i n ns e'
      cases e
      obtain ⟨v, rfl, h⟩ := vwl1 w
      obtain ⟨a, vs, rfl, q1, r1⟩ := vw_lst h
      have := intsD_vals e' r1
      subst this
      obtain ⟨f1, f2⟩ := fold_min n ns
      refine cr_min c.calm pins s σ H _ us Q I r ⟨a, n :: ns, rfl, by rw [c.K]; exact q1, Nat.zero_lt_succ _, fun m hm hall => q _ _ (Grow.refl _) ?_⟩
      exact congrArg V.int (Int.le_antisymm (hall _ f1) (f2 m hm))
    · cases e
  · cases e
theorem ok_max (c : XI X G W k) : CallR X (.builtin "max") (rB G fMax) := by
  intro pins s σ H xs us Q I r ⟨g, M, ds, rr, R, w, e, q⟩
  unfold fMax at e
  split at e
  · cases e
    obtain ⟨v, u, rfl, h1, h2⟩ := vwl2 w
    cases vw_int h1
    cases vw_int h2
    exact call_max2 c.calm pins s σ H _ us Q I r ⟨_, _, rfl, q _ _ (Grow.refl _) rfl⟩
  · split at e
    · rename_i n ns e'
      cases e
      obtain ⟨v, rfl, h⟩ := vwl1 w
      obtain ⟨a, vs, rfl, q1, r1⟩ := vw_lst h
      have := intsD_vals e' r1
      subst this
      obtain ⟨f1, f2⟩ := fold_max n ns
      refine cr_max c.calm pins s σ H _ us Q I r ⟨a, n :: ns, rfl, by rw [c.K]; exact q1, Nat.zero_lt_succ _, fun m hm hall => q _ _ (Grow.refl _) ?_⟩
      exact congrArg V.int (Int.le_antisymm (f2 m hm) (hall _ f1))
    · cases e
  · cases e
end
end PI
/-! PISndC: sorted, isinstance, repr are sound. -/
namespace PI
open PySem PySem.Spec PyProof.Rows L2
section
variable {X : Cx} {G : Ga} {W : WX} {k : Nat} {g : Gs} {H : Hp} {pins : List (Addr × Obj)} {σ : St} {s : Shared}
/-! isinstance -/
theorem tyD_is (hK : X.K = G.K) {d : D} {v : V} {t : String} (h : Vw G g H d v) (e : tyD d = some t) : TyX X.K H v (.type t) := by
  cases d with
  | non => cases e; cases vw_non h; exact .base .non
  | bl b => cases e; cases vw_bl h; exact .base (.bl _)
  | int b => cases e; cases vw_int h; exact .base (.int _)
  | str b => cases e; obtain ⟨rfl, _⟩ := vw_str h; exact .base (.str _)
  | tup ds =>
    cases e
    obtain ⟨a, vs, rfl, q, _⟩ := vw_tup h
    rcases q with ⟨o, q, _⟩ | ⟨o, its, n, e1, e2, _⟩
    · exact .fTuple q
    · exact .kTuple (by rw [hK]; exact e1) e2
  | tupw ds =>
    cases e
    obtain ⟨a, vs, rfl, q, _⟩ := vw_tupw h
    exact .base (.tup q)
  | lst ds =>
    cases e
    obtain ⟨a, vs, rfl, q, _⟩ := vw_lst h
    rcases q with (q | ⟨o, q⟩) | ⟨o, its, n, e1, e2, _⟩
    · exact .base (.lst q)
    · exact .base (.frz q)
    · exact .kList (by rw [hK]; exact e1) e2
  | dic kvs =>
    simp only [tyD] at e
    split at e
    · rename_i hf
      cases e
      obtain ⟨a, rfl, ks, q | ⟨o, q⟩, _⟩ := vw_dicK hf h
      · exact .base (.dK q)
      · exact .fDict q
    · cases e
  | _ => cases e
theorem isiTy_kit (K : PySem.W.Frag) {t T : String} {b : Bool} (ht : t ∈ ["NoneType", "bool", "int", "str", "tuple", "list", "dict"]) (e : isiTy t T = some b) : PySem.W.kitOne K (.type t) (.type T) = some b := by
  unfold isiTy at e
  split at e
  · rename_i hT
    subst hT
    cases e
    simp only [List.mem_cons, List.not_mem_nil, or_false] at ht
    rcases ht with rfl | rfl | rfl | rfl | rfl | rfl | rfl <;> kernel_rfl
  · split at e
    · rename_i hT
      simp only [Bool.or_eq_true, decide_eq_true_eq] at hT
      cases e
      simp only [List.mem_cons, List.not_mem_nil, or_false] at ht
      rcases hT with (((rfl | rfl) | rfl) | rfl) | rfl <;> rcases ht with rfl | rfl | rfl | rfl | rfl | rfl | rfl <;> kernel_rfl
    · cases e
theorem tyD_mem {d : D} {t : String} (e : tyD d = some t) : t ∈ ["NoneType", "bool", "int", "str", "tuple", "list", "dict"] := by
  cases d <;> simp only [tyD] at e <;> first
    | (cases e <;> simp; done)
    | (split at e <;> cases e <;> simp; done)
theorem vw_ty {n : String} {v : V} (h : Vw G g H (.ty n) v) : v = .ty n := by
  rcases h with h | ⟨a, o, rfl, q, e⟩
  · exact h
  · cases o <;> cases e
theorem ok_isi (c : XJ X G W) : CallR X (.builtin "isinstance") (rB G fIsi) := by
  intro pins s σ H xs us Q I r ⟨g, M, ds, rr, R, w, e, q⟩
  unfold fIsi at e
  split at e
  · rename_i x T
    cases h1 : tyD x with
    | none => rw [h1] at e; cases e
    | some t =>
      rw [h1] at e
      obtain ⟨b, e', rfl⟩ := Option.map_eq_some_iff.mp e
      obtain ⟨v, u, rfl, v1, v2⟩ := vwl2 w
      cases vw_ty v2
      exact call_isi pins s σ H _ us Q I r ⟨v, _, .type t, .type T, b, rfl, .ty T, tyD_is c.K v1 h1, isiTy_kit _ (tyD_mem h1) e', q _ _ (Grow.refl _) rfl⟩
  · cases e
/-- the name of a built-in type -/
theorem okTy {x : Str} {T : String} {pos : Pos} (hm : X.mg x = none) (hv : bootBuiltins x = some (.type T)) (hg : Gl X x := by rfl) (hn : x ≠ "__name__" := by decide) (hd : (x == ("__debug__" : Str)) = false := by decide) : PEI X G W (.Name x pos) (eCon (.ty T)) :=
  okCon (pe_bltn (v := .ty T) hg hm hv rfl hn hd) fun _ _ => by simp only [Is]
/-! sorted -/
theorem datL_mem : ∀ {ds : List D} {ps : List PyData}, datL ds = some ps → ∀ d ∈ ds, ∃ p, dat d = some p ∧ p ∈ ps
  | d :: ds, ps, e, x, hx => by
    simp only [datL] at e
    cases e1 : dat d with
    | none => rw [e1] at e; cases e
    | some p =>
      rw [e1] at e
      obtain ⟨ps', e2, rfl⟩ := Option.map_eq_some_iff.mp e
      rcases List.mem_cons.mp hx with rfl | hx
      · exact ⟨p, e1, List.mem_cons_self ..⟩
      · obtain ⟨q, h1, h2⟩ := datL_mem e2 x hx
        exact ⟨q, h1, List.mem_cons_of_mem _ h2⟩
theorem sortOk_parts {ps : List PyData} (h : sortOk ps = true) : PySem.W.AllAlike ps ∧ PySem.W.Sortable ps ∧ ∀ p ∈ ps, p.depth ≤ 60 := by
  simp only [sortOk, alikeL, Bool.and_eq_true, Bool.or_eq_true, List.all_eq_true, decide_eq_true_eq] at h
  refine ⟨fun d hd d' hd' => h.1.1 d hd d' hd', ?_, h.1.2⟩
  rcases h.2 with h | h
  · refine .inl fun d hd => ?_
    have := h d hd
    split at this
    · exact ⟨_, _, rfl⟩
    · cases this
  · refine .inr fun d hd => ?_
    have := h d hd
    split at this
    · cases this
    · cases this
    · rename_i n1 n2
      exact ⟨fun z => n2 z, fun xs z => n1 xs z⟩
end
end PI
/-! PISndD: methods, stores into objects are sound. -/
namespace PI
open PySem PySem.Spec PyProof.Rows L2
section
variable {X : Cx} {G : Ga} {W : WX} {k : Nat} {g : Gs} {H : Hp} {pins : List (Addr × Obj)} {σ : St} {s : Shared}
def Ty.nm : Ty → String
  | .list => "list"
  | .tuple => "tuple"
  | .dict => "dict"
  | .str => "str"
def tyI (G : Ga) (T : Ty) (x : V) (H : Hp) : Prop := ∃ g d, Vw G g H d x ∧ T.has d = true
theorem ty_ok (c : XJ X G W) (T : Ty) : TyOk X T.nm (tyI G T) := by
  intro pins σ H s x v I rx ⟨g, d, h, ht⟩
  cases T with
  | list => cases d with
    | lst ds =>
      obtain ⟨a, vs, rfl, q, _⟩ := vw_lst h
      cases rx
      rw [← c.K] at q
      obtain ⟨its, _, pl, _⟩ := I.list q
      refine ⟨pl.isList.typeIs, fun b e => ?_⟩
      cases e
      obtain ⟨o, n, e, cc, hd, _⟩ := pl
      exact ⟨o, e, hd⟩
    | _ => cases ht
  | tuple => cases d with
    | tup ds =>
      obtain ⟨a, vs, rfl, q, _⟩ := vw_tup h
      cases rx
      rcases q with ⟨o, q, hd⟩ | ⟨o, its, n, e1, e2, e3, _⟩
      · obtain ⟨ho, _, its, _, o', ho', hc, _⟩ := I.hok a _ q
        rw [ho] at ho'
        cases ho'
        refine ⟨⟨o, ho, hc⟩, fun b e => ?_⟩
        cases e
        exact ⟨o, ho, hd⟩
      · rw [← c.K] at e1
        refine ⟨⟨o, I.kIn a o e1, e2⟩, fun b e => ?_⟩
        cases e
        exact ⟨o, I.kIn _ o e1, e3⟩
    | _ => cases ht
  | dict => cases d with
    | dic kvs =>
      obtain ⟨a, rfl, hq⟩ := vw_dic h
      cases rx
      have : IsD H a := by
        rcases hq with ⟨ks, q, _⟩ | ⟨ks, q, _⟩
        · exact .inl ⟨ks, q⟩
        · exact .inr ⟨ks, q⟩
      obtain ⟨h1, h2, _⟩ := isD_at I this
      exact ⟨h1, h2⟩
    | _ => cases ht
  | str => cases d with
    | str cs =>
      obtain ⟨rfl, _⟩ := vw_str h
      obtain ⟨t, rfl⟩ := rx
      exact ⟨typeIs_str s _ t, fun _ e => nomatch e⟩
    | _ => cases ht
variable {o e : Expr} {es : List Expr} {name : Str} {apos cpos : Pos} {id : String} {T : Ty}
theorem has_of {T : Ty} {mo : EM PV} {α : Type} {f : EM α} {σ : St} {g : Gs} {H : Hp} {e : Env} {M : MH} {kk : α → Env → MH → Prop} {p : PV} {v : V} (R : Rel G g σ H e M) (hp : PVIs G g H σ v p)
    (h : PostR G W g H σ (EM.bind p.now (fun d0 => if T.has d0 then f else fun _ _ => .stuck) e M) kk) : tyI G T v H ∧ PostR G W g H σ (f e M) kk := by
  obtain ⟨d, h2, q⟩ := now_ok R hp (PostR.bind h)
  by_cases ht : T.has d = true
  · rw [if_pos ht] at h2
    exact ⟨⟨g, d, q, ht⟩, h2⟩
  · rw [if_neg ht] at h2
    exact False.elim h2
theorem okM (c : XJ X G W) {f : D → List D → Option SV} {mo : EM PV} {ms : EM (List PV)} (pa : PlainAttrs T.nm) (slot : Slot T.nm name id) (hty : typeOf (.builtin id) = pure (.type "method_descriptor")) (hm : MtR X id (rM G f)) (ho : PPI X G W o mo) (ha : PAPI X G W (e :: es) ms)
    (hbase : attributeBase o name X.env (eval o X.env) = eval o X.env := by rfl)
    (hfew : ((backTo cpos (starEach (e :: es) X.env)).all (fun x => !x.1) && (backToKw cpos (keywordEach [] X.env)).all (fun x => x.1.isSome)
      && decide ((e :: es).length + ([] : List Keyword).length + (if ([] : List Keyword).isEmpty then 0 else 1) < 30)) = true := by rfl)
    (hline : (apos.endLine == cpos.line) = true := by rfl) (hs : starEach (e :: es) X.env = (false, eval e X.env) :: starEach es X.env := by rfl) (hplain : (backTo cpos (starEach es X.env)).any (·.1) = false := by rfl) :
    PEI X G W (.Call (.Attribute o name apos) (e :: es) [] cpos) (eM T f mo ms) :=
  PE.imp (pe_mG (ty_ok c T) pa slot hty hm ho ha hbase hfew hline hs hplain) fun σ H Q ⟨g, e0, M, R, h⟩ => ⟨g, e0, M, R, (PostR.bind h).mono fun p e1 M1 _ k1 x H1 g1 N1 R1 p1 => by
    obtain ⟨t1, k2⟩ := has_of (mo := mo) R1 p1 (k1.from N1)
    refine ⟨t1, g1, e1, M1, R1, (PostR.bind k2).mono fun ps e2 M2 _ k3 vs H2 g2 N2 R2 pl => ?_⟩
    have k3 := k3.from N2
    obtain ⟨d, k4, w⟩ := now_ok R2 (p1.next N2) (PostR.bind k3)
    obtain ⟨ds, k5, wl⟩ := nowL_ok R2 pl (PostR.bind k4)
    obtain ⟨r, er, k6⟩ := lift_ok k5
    exact ⟨g2, M2, d, ds, r, R2.toHRel, w, wl, er, fun v H' ww n => k6 v H' g2 ((N1.trans N2).trans (R2.toHRel.grows ww)) (R2.grow ww) (n.sv R2 ww)⟩⟩
/-! objects changed -/
/-- a method that changes its object, by values -/
def rMut (G : Ga) (f : MO → List D → Option (D × MO)) : V → List V → Hp → VK → Prop := fun x vs H Q => ∃ g a o ds d o', x = .ref a ∧ OIs G g H a o ∧ IsL G g H ds vs ∧ f o ds = some (d, o') ∧
  ∀ v u, OIs G g (upd H a u) a o' → Is G g (upd H a u) d v → Q v (upd H a u)
theorem Rel.chgOwn {e : Env} {M : MH} {i : Nat} {o o' : MO} {a : Addr} {u : HO} (R : Rel G g σ H e M) (hi : e[i]? = some (some (.own o))) (hs : σ[i]? = some (some (.ref a))) (h : OIs G g (upd H a u) a o') :
    Next g H g (upd H a u) ∧ Rel G g σ (upd H a u) (setS e i (.own o')) M := by
  obtain ⟨b, e1, q, z, m⟩ := R.ow i o hi
  rw [hs] at e1
  cases e1
  have N := upd_next (u := u) z q.mut
  have il : i < e.length := (List.getElem?_eq_some_iff.mp hi).1
  have aux : ∀ {j : Nat} {w : SV}, (List.set e i (some (.own o')))[j]? = some (some w) → (j = i ∧ w = .own o') ∨ (j ≠ i ∧ e[j]? = some (some w)) := fun {j w} h1 => by
    by_cases hj : i = j
    · subst hj
      rw [List.getElem?_set_self il] at h1
      cases h1
      exact .inl ⟨rfl, rfl⟩
    · rw [List.getElem?_set_ne hj] at h1
      exact .inr ⟨fun z => hj z.symm, h1⟩
  refine ⟨N, R.toHRel.next N fun b hb => upd_ne fun e => m (e ▸ hb), by unfold setS; rw [List.length_set]; exact R.el, fun j d h1 => ?_, fun j w h1 => ?_, fun j j' b w w' h1 h2 h3 h4 => ?_⟩
  · rcases aux h1 with ⟨_, e⟩ | ⟨_, h1⟩
    · cases e
    · obtain ⟨v, e1, q⟩ := R.sl j d h1
      exact ⟨v, e1, q.next N⟩
  · rcases aux h1 with ⟨rfl, e⟩ | ⟨hj, h1⟩
    · cases e
      exact ⟨a, hs, h, z, m⟩
    · obtain ⟨b, e1, q, zb, mb⟩ := R.ow j w h1
      exact ⟨b, e1, q.next N (upd_ne fun eb => hj (R.di j i b w o h1 hi e1 (by rw [eb]; exact hs))), zb, mb⟩
  · rcases aux h1 with ⟨e1, _⟩ | ⟨_, g1⟩
    · rcases aux h2 with ⟨e2, _⟩ | ⟨_, g2⟩
      · rw [e1, e2]
      · rw [e1] at h3 ⊢
        exact R.di _ j' b o w' hi g2 h3 h4
    · rcases aux h2 with ⟨e2, _⟩ | ⟨_, g2⟩
      · rw [e2] at h4 ⊢
        exact R.di j _ b w o g1 hi h3 h4
      · exact R.di j j' b w w' g1 g2 h3 h4
theorem nodup_idx {l : List Addr} {a : Addr} : l.Nodup → ∀ {i j : Nat}, l[i]? = some a → l[j]? = some a → i = j := by
  induction l with
  | nil => intro _ i j h; simp at h
  | cons x l ih =>
    intro nd i j h1 h2
    obtain ⟨n1, n2⟩ := List.nodup_cons.mp nd
    cases i with
    | zero => cases j with
      | zero => rfl
      | succ j =>
        simp at h1 h2
        subst h1
        exact absurd (List.mem_of_getElem? h2) n1
    | succ i => cases j with
      | zero =>
        simp at h1 h2
        subst h2
        exact absurd (List.mem_of_getElem? h1) n1
      | succ j =>
        simp at h1 h2
        exact congrArg Nat.succ (ih n2 h1 h2)
theorem Rel.chgObj {e : Env} {M : MH} {n : Nat} {o o' : MO} {a : Addr} {u : HO} (R : Rel G g σ H e M) (hi : M[n]? = some o) (hs : g.μ[n]? = some a) (h : OIs G g (upd H a u) a o') :
    Next g H g (upd H a u) ∧ Rel G g σ (upd H a u) e (M.set n o') := by
  have q := R.ob n a o hs hi
  have mem : a ∈ g.μ := List.mem_of_getElem? hs
  have N := upd_next (u := u) (R.mZ a mem) q.mut
  have nl : n < M.length := (List.getElem?_eq_some_iff.mp hi).1
  refine ⟨N, ⟨fun b h => let ⟨u', e⟩ := R.ZH b h; ⟨u', (N.kZ b h).trans e⟩, by rw [List.length_set]; exact R.len, R.nd, R.mZ, fun m b w h1 h2 => ?_⟩, R.el, fun i d h => let ⟨v, e1, q⟩ := R.sl i d h; ⟨v, e1, q.next N⟩, fun i w h1 => ?_, R.di⟩
  · by_cases hm : n = m
    · subst hm
      rw [hs] at h1
      cases h1
      rw [List.getElem?_set_self nl] at h2
      cases h2
      exact h
    · rw [List.getElem?_set_ne hm] at h2
      refine (R.ob m b w h1 h2).next N (upd_ne fun eb => hm ?_)
      rw [eb] at h1
      exact nodup_idx R.nd hs h1
  · obtain ⟨b, e1, qb, zb, mb⟩ := R.ow i w h1
    exact ⟨b, e1, qb.next N (upd_ne fun eb => mb (by rw [eb]; exact mem)), zb, mb⟩
/-- the object at an operand -/
theorem chg_ok {e : Env} {M : MH} {p : PV} {x : V} {f : MO → Option (D × MO)} {kk : SV → Env → MH → Prop} (R : Rel G g σ H e M) (hp : PVIs G g H σ x p) (h : PostR G W g H σ (p.chg f e M) kk) :
    ∃ a o d o' e' M', x = .ref a ∧ OIs G g H a o ∧ f o = some (d, o') ∧ kk (.val d) e' M' ∧ ∀ u, OIs G g (upd H a u) a o' → Next g H g (upd H a u) ∧ Rel G g σ (upd H a u) e' M' := by
  cases p with
  | v d =>
    cases d with
    | obj n =>
      have hp : Is G g H (.obj n) x := hp
      simp only [Is] at hp
      obtain ⟨a, rfl, hn⟩ := hp
      simp only [PV.chg] at h
      cases q : M[n]? with
      | none => rw [q] at h; exact False.elim h
      | some o =>
        rw [q] at h
        dsimp only at h
        cases hf : f o with
        | none => rw [hf] at h; exact False.elim h
        | some do' =>
          obtain ⟨d, o'⟩ := do'
          rw [hf] at h
          exact ⟨a, o, d, o', e, M.set n o', rfl, R.ob n a o hn q, hf, h, fun u hu => Rel.chgObj R q hn hu⟩
    | _ => exact False.elim h
  | sl i =>
    simp only [PV.chg] at h
    cases q : e.getD i none with
    | none => rw [q] at h; exact False.elim h
    | some sv =>
      rw [q] at h
      cases sv with
      | val d => exact False.elim h
      | own o =>
        have hp : σ[i]? = some (some x) := hp
        obtain ⟨a, e1, r, _⟩ := R.ow i o (getD_some q)
        rw [hp] at e1
        cases e1
        dsimp only at h
        cases hf : f o with
        | none => rw [hf] at h; exact False.elim h
        | some do' =>
          obtain ⟨d, o'⟩ := do'
          rw [hf] at h
          exact ⟨a, o, d, o', _, M, rfl, r, hf, h, fun u hu => Rel.chgOwn R (getD_some q) hp hu⟩
theorem okMut (c : XJ X G W) {f : MO → List D → Option (D × MO)} {mo : EM PV} {ms : EM (List D)} (pa : PlainAttrs T.nm) (slot : Slot T.nm name id) (hty : typeOf (.builtin id) = pure (.type "method_descriptor")) (hm : MtR X id (rMut G f)) (ho : PPI X G W o mo) (ha : PAI X G W (e :: es) ms)
    (hbase : attributeBase o name X.env (eval o X.env) = eval o X.env := by rfl)
    (hfew : ((backTo cpos (starEach (e :: es) X.env)).all (fun x => !x.1) && (backToKw cpos (keywordEach [] X.env)).all (fun x => x.1.isSome)
      && decide ((e :: es).length + ([] : List Keyword).length + (if ([] : List Keyword).isEmpty then 0 else 1) < 30)) = true := by rfl)
    (hline : (apos.endLine == cpos.line) = true := by rfl) (hs : starEach (e :: es) X.env = (false, eval e X.env) :: starEach es X.env := by rfl) (hplain : (backTo cpos (starEach es X.env)).any (·.1) = false := by rfl) :
    PEI X G W (.Call (.Attribute o name apos) (e :: es) [] cpos) (eMut T f mo ms) :=
  PE.imp (pe_mG (ty_ok c T) pa slot hty hm ho ha hbase hfew hline hs hplain) fun σ H Q ⟨g, e0, M, R, h⟩ => ⟨g, e0, M, R, (PostR.bind h).mono fun p e1 M1 _ k1 x H1 g1 N1 R1 p1 => by
    obtain ⟨t1, k2⟩ := has_of (mo := mo) R1 p1 (k1.from N1)
    refine ⟨t1, g1, e1, M1, R1, (PostR.bind k2).mono fun ds e2 M2 _ k3 vs H2 g2 N2 R2 pl => ?_⟩
    have k3 := k3.from N2
    obtain ⟨a, ob, d, o', e3, M3, rfl, q1, q2, k4, q3⟩ := chg_ok R2 (p1.next N2) k3
    refine ⟨g2, a, ob, ds, d, o', rfl, q1, pl, q2, fun v u h1 h2 => ?_⟩
    obtain ⟨N3, R3⟩ := q3 u h1
    exact k4 v _ g2 ((N1.trans N2).trans N3) R3 h2⟩
end
end PI
/-! PISndE: the methods one by one; stores into lists, dicts; comprehensions assigned. -/
namespace PI
open PySem PySem.Spec PyProof.Rows L2
section
variable {X : Cx} {G : Ga} {W : WX} {k : Nat} {g : Gs} {H : Hp} {pins : List (Addr × Obj)} {σ : St} {s : Shared}
theorem vw_still {d : D} {v : V} (f : d.still = true) (h : Vw G g H d v) : Is G g H d v := by
  rcases h with h | ⟨a, o, rfl, q, rfl⟩
  · exact h
  · cases o <;> cases f
/-! index, count -/
theorem place_parts {ds : List D} {x : D} {j : Nat} (h : placeD ds x = some j) : ∃ p ps, dat x = some p ∧ datL ds = some ps ∧ p.plain = true ∧ PyData.plainAll ps = true ∧ min (PyData.depthAll ps) p.depth ≤ 60 ∧ SeqAt.dataPlace ps p = some j := by
  unfold placeD at h
  cases h1 : dat x with
  | none => rw [h1] at h; cases h
  | some p =>
    rw [h1] at h
    cases h2 : datL ds with
    | none => rw [h2] at h; cases h
    | some qs =>
      rw [h2] at h
      have h : (if inOk p qs = true then qs.findIdx? (fun q => PyData.eqv q p) else none) = some j := h
      split at h
      · rename_i ok
        simp only [inOk, Bool.and_eq_true, decide_eq_true_eq] at ok
        exact ⟨p, qs, rfl, rfl, ok.1.1, ok.1.2, ok.2, h⟩
      · cases h
theorem ok_index (c : XJ X G W) : MtR X "list.index" (rM G fIndexL) := by
  intro pins s σ H x xs v us Q I rx rs ⟨g, M, d, ds, r, R, vx, vl, e, q⟩
  have hu := c.room.units
  unfold fIndexL at e
  split at e
  · rename_i ds0 x0
    obtain ⟨j, e', rfl⟩ := Option.map_eq_some_iff.mp e
    obtain ⟨y, rfl, vy⟩ := vwl1 vl
    obtain ⟨u, rfl, ry⟩ := vals1 rs
    obtain ⟨a, vs, rfl, q1, r1⟩ := vw_lst vx
    cases rx
    obtain ⟨p, ps, e1, e2, k1, k2, k3, hp⟩ := place_parts e'
    obtain ⟨bs, rd, _⟩ := Vw.reads c.K I vy e1 ry
    rw [← c.K] at q1
    obtain ⟨its, rv, ⟨⟨cls, dd, data, sl⟩, n, ho, hc, _, hd⟩, hz⟩ := I.list q1
    simp only at hc hd
    subst hc hd
    obtain ⟨as, rr, _⟩ := Is.readsL c.K I r1 e2 rv
    obtain ⟨hj, hit, hno⟩ := SeqAt.hit_at (vs := its.toArray) (by simpa using rr) k2 hp
    have hsl := sizeLine_eq
    have hlen : its.toArray.size = vs.length := by rw [List.size_toArray]; exact rv.length.symm
    exact call_meets PySem.F.slot_list_index ⟨_, ho, rfl⟩ PySem.F.entry_list_index (PySem.F.args_list_index_2 _ _) (SeqAt.list_indexAt a its.toArray n dd sl u _ j hj (by omega) hit hno)
      ⟨ho, SeqAt.items_plain (by simpa using rr) rd k2 k1 (by omega), .int (j : Nat), H, I.tok _, ⟨_, rfl⟩, q _ _ (Grow.refl _) rfl⟩
  · cases e
theorem ok_indexT (c : XJ X G W) : MtR X "tuple.index" (rM G fIndexT) := by
  intro pins s σ H x xs v us Q I rx rs ⟨g, M, d, ds, r, R, vx, vl, e, q⟩
  have hu := c.room.units
  unfold fIndexT at e
  split at e
  · rename_i ds0 x0
    obtain ⟨j, e', rfl⟩ := Option.map_eq_some_iff.mp e
    obtain ⟨y, rfl, vy⟩ := vwl1 vl
    obtain ⟨u, rfl, ry⟩ := vals1 rs
    obtain ⟨a, vs, rfl, q1, r1⟩ := vw_tup vx
    cases rx
    obtain ⟨p, ps, e1, e2, k1, k2, k3, hp⟩ := place_parts e'
    obtain ⟨bs, rd, _⟩ := Vw.reads c.K I vy e1 ry
    have t1 := q1.t
    rw [← c.K] at t1
    obtain ⟨its, rv, ⟨⟨cls, dd, data, sl⟩, ho, hc, n, hd⟩, hz⟩ := I.tuple t1
    simp only at hc hd
    subst hc hd
    obtain ⟨as, rr, _⟩ := Is.readsL c.K I r1 e2 rv
    obtain ⟨hj, hit, hno⟩ := SeqAt.hit_at (vs := its.toArray) (by simpa using rr) k2 hp
    exact call_meets PySem.F.slot_tuple_index ⟨_, ho, rfl⟩ PySem.F.entry_tuple_index (PySem.F.args_tuple_index_2 _ _) (TI.tuple_indexAt a its.toArray n dd sl u _ j hj hit hno)
      ⟨ho, SeqAt.items_plain (by simpa using rr) rd k2 k1 (by omega), .int (j : Nat), H, I.tok _, ⟨_, rfl⟩, q _ _ (Grow.refl _) rfl⟩
  · cases e
theorem count_parts {ds : List D} {x : D} {r : SV} (h : countD ds x = some r) : ∃ p ps, dat x = some p ∧ datL ds = some ps ∧ p.plain = true ∧ PyData.plainAll ps = true ∧ min (PyData.depthAll ps) p.depth ≤ 60 ∧ r = .val (.int (ps.countP fun q => PyData.eqv q p : Nat)) := by
  unfold countD at h
  cases h1 : dat x with
  | none => rw [h1] at h; cases h
  | some p =>
    rw [h1] at h
    cases h2 : datL ds with
    | none => rw [h2] at h; cases h
    | some qs =>
      rw [h2] at h
      have h : (if inOk p qs = true then sv (.int (qs.countP fun q => PyData.eqv q p : Nat)) else none) = some r := h
      split at h
      · rename_i ok
        simp only [inOk, Bool.and_eq_true, decide_eq_true_eq] at ok
        cases h
        exact ⟨p, qs, rfl, rfl, ok.1.1, ok.1.2, ok.2, rfl⟩
      · cases h
theorem ok_count (c : XJ X G W) : MtR X "list.count" (rM G fCountL) := by
  intro pins s σ H x xs v us Q I rx rs ⟨g, M, d, ds, r, R, vx, vl, e, q⟩
  have hu := c.room.units
  unfold fCountL at e
  split at e
  · obtain ⟨p, ps, e1, e2, k1, k2, k3, rfl⟩ := count_parts e
    obtain ⟨y, rfl, vy⟩ := vwl1 vl
    obtain ⟨u, rfl, ry⟩ := vals1 rs
    obtain ⟨a, vs, rfl, q1, r1⟩ := vw_lst vx
    cases rx
    obtain ⟨bs, rd, _⟩ := Vw.reads c.K I vy e1 ry
    rw [← c.K] at q1
    obtain ⟨its, rv, pl, hz⟩ := I.list q1
    obtain ⟨as, rr, _⟩ := Is.readsL c.K I r1 e2 rv
    exact SeqAt.count_list_data pl.isList (by simpa using rr) rd k2 k1 (by omega) ⟨.int _, H, I.tok _, ⟨_, rfl⟩, q _ _ (Grow.refl _) rfl⟩
  · cases e
theorem ok_countT (c : XJ X G W) : MtR X "tuple.count" (rM G fCountT) := by
  intro pins s σ H x xs v us Q I rx rs ⟨g, M, d, ds, r, R, vx, vl, e, q⟩
  have hu := c.room.units
  unfold fCountT at e
  split at e
  · obtain ⟨p, ps, e1, e2, k1, k2, k3, rfl⟩ := count_parts e
    obtain ⟨y, rfl, vy⟩ := vwl1 vl
    obtain ⟨u, rfl, ry⟩ := vals1 rs
    obtain ⟨a, vs, rfl, q1, r1⟩ := vw_tup vx
    cases rx
    obtain ⟨bs, rd, _⟩ := Vw.reads c.K I vy e1 ry
    have t1 := q1.t
    rw [← c.K] at t1
    obtain ⟨its, rv, pl, hz⟩ := I.tuple t1
    obtain ⟨as, rr, _⟩ := Is.readsL c.K I r1 e2 rv
    exact SeqAt.count_tuple_data pl (by simpa using rr) rd k2 k1 (by omega) ⟨.int _, H, I.tok _, ⟨_, rfl⟩, q _ _ (Grow.refl _) rfl⟩
  · cases e
/-! append .. -/
theorem ois_upd {a : Addr} {ds : List D} {vs : List V} (hm : Mut (H a)) (hz : True) {ws : List V} (r : IsL G g H ds ws) (e : ws = vs) : IsL G g (upd H a (.lst vs)) ds vs := by
  subst e
  exact r.nextI ⟨⟨[], by simp⟩, fun b o h n => by
    rw [upd_ne fun z => n (by rw [← z, h] at hm; exact hm)]
    exact h⟩
theorem isL1 {d : D} {vs : List V} (h : IsL G g H [d] vs) : ∃ v, vs = [v] ∧ Is G g H d v := by
  match vs, h with
  | [v], h => simp only [IsL] at h; exact ⟨v, rfl, h.1⟩
  | [], h => simp only [IsL] at h
  | _ :: _ :: _, h => simp only [IsL] at h; exact h.2.elim
theorem lst_mut {a : Addr} {vs : List V} (h : H a = some (.lst vs)) : Mut (H a) := by rw [h]; trivial
theorem ok_append : MtR X "list.append" (rMut G mAppend) := by
  intro pins s σ H x xs v us Q I rx rs hh
  obtain ⟨g, a, o, ds, d, o', rfl, q1, r1, e, q⟩ := hh
  unfold mAppend at e
  split at e
  · split at e
    · rename_i hl
      cases e
      obtain ⟨vs, h, r⟩ := q1
      obtain ⟨y, rfl, iy⟩ := isL1 r1
      have hl := line_of hl
      have hm := lst_mut h
      refine mt_append pins s σ H _ _ v us Q I rx rs ⟨a, vs, y, rfl, rfl, h, by rw [← r.length]; omega, q _ _ ⟨_, upd_same, ?_⟩ rfl⟩
      exact ois_upd hm trivial (IsL.append r (by simp only [IsL]; exact ⟨iy, trivial⟩)) rfl
    · cases e
  · cases e
theorem isL_set : ∀ {ds : List D} {vs : List V} (i : Nat) {d : D} {v : V}, IsL G g H ds vs → Is G g H d v → IsL G g H (ds.set i d) (vs.set i v)
  | [], [], _, _, _, h, _ => by simpa using h
  | _ :: _, _ :: _, 0, _, _, h, k => by
    simp only [IsL, List.set_cons_zero] at h ⊢
    exact ⟨k, h.2⟩
  | _ :: _, _ :: _, i + 1, _, _, h, k => by
    simp only [IsL, List.set_cons_succ] at h ⊢
    exact ⟨h.1, isL_set i h.2 k⟩
  | [], _ :: _, _, _, _, h, _ => by simp only [IsL] at h
  | _ :: _, [], _, _, _, h, _ => by simp only [IsL] at h
end
end PI
/-! PISndF: stores into lists, dicts; displays of dicts; comprehensions assigned; shared objects. -/
namespace PI
open PySem PySem.Spec PyProof.Rows L2
section
variable {X : Cx} {G : Ga} {W : WX} {k : Nat} {g : Gs} {H : Hp} {pins : List (Addr × Obj)} {σ : St} {s : Shared}
theorem isK_append : ∀ {a b : List (D × D)} {x y : List (Key × V)}, IsK G g H a x → IsK G g H b y → IsK G g H (a ++ b) (x ++ y)
  | [], _, [], _, _, h => h
  | (k, d) :: r, _, (q, v) :: s, _, h, h2 => by
    simp only [List.cons_append, IsK] at h ⊢
    exact ⟨h.1, h.2.1, isK_append h.2.2 h2⟩
  | [], _, _ :: _, _, h, _ => by simp only [IsK] at h
  | (_, _) :: _, _, [], _, h, _ => by simp only [IsK] at h
theorem isT_append : ∀ {a b : List (D × D)} {x y : List (List Key × V)}, IsT G g H a x → IsT G g H b y → IsT G g H (a ++ b) (x ++ y)
  | [], _, [], _, _, h => h
  | (k, d) :: r, _, (q, v) :: s, _, h, h2 => by
    cases k with
    | tup l =>
      simp only [List.cons_append, IsT] at h ⊢
      exact ⟨h.1, h.2.1, isT_append h.2.2 h2⟩
    | _ => simp only [IsT] at h
  | [], _, _ :: _, _, h, _ => by simp only [IsT] at h
  | (k, _) :: _, _, [], _, h, _ => by cases k <;> simp only [IsT] at h
theorem anyK {kd : D} (fk : kd.flatKey = true) : ∀ {kvs : List (D × D)} {ks : List (Key × V)}, IsK G g H kvs ks → (kvs.all (·.1.flatKey)) = true → (kvs.any fun p => keyEq p.1 kd) = ks.any fun kv => decide (kv.1 = keyD kd)
  | [], [], _, _ => rfl
  | (k', d) :: r, (q, v) :: s, h, f => by
    simp only [IsK] at h
    rw [List.all_cons, Bool.and_eq_true] at f
    have eq := keyD_of f.1 h.1
    subst eq
    rw [List.any_cons, List.any_cons, anyK fk h.2.2 f.2]
    dsimp only
    rw [keyEq_iff f.1 fk]
  | [], _ :: _, h, _ => by simp only [IsK] at h
  | (_, _) :: _, [], h, _ => by simp only [IsK] at h
theorem mapK {kd dv : D} {v : V} (fk : kd.flatKey = true) (iv : Is G g H dv v) : ∀ {kvs : List (D × D)} {ks : List (Key × V)}, IsK G g H kvs ks → (kvs.all (·.1.flatKey)) = true →
    IsK G g H (kvs.map fun p => if keyEq p.1 kd then (p.1, dv) else p) (ks.map fun kv => if kv.1 = keyD kd then (kv.1, v) else kv)
  | [], [], _, _ => by simp only [List.map_nil, IsK]
  | (k', d) :: r, (q, w) :: s, h, f => by
    simp only [IsK] at h
    rw [List.all_cons, Bool.and_eq_true] at f
    have eq := keyD_of f.1 h.1
    subst eq
    rw [List.map_cons, List.map_cons]
    dsimp only
    rw [keyEq_iff f.1 fk]
    by_cases e : keyD k' = keyD kd
    · rw [if_pos (decide_eq_true e), if_pos e]
      simp only [IsK]
      exact ⟨h.1, iv, mapK fk iv h.2.2 f.2⟩
    · rw [if_neg (by simpa using e), if_neg e]
      simp only [IsK]
      exact ⟨h.1, h.2.1, mapK fk iv h.2.2 f.2⟩
  | [], _ :: _, h, _ => by simp only [IsK] at h
  | (_, _) :: _, [], h, _ => by simp only [IsK] at h
theorem keep_flat {kd : D} (fk : kd.flatKey = true) : kd.keep = kd := by cases kd <;> first | rfl | cases fk
theorem putK_is {kd dv : D} {v y : V} (fk : kd.flatKey = true) (ik : Is G g H kd y) (iv : Is G g H dv v) {kvs : List (D × D)} {ks : List (Key × V)} (h : IsK G g H kvs ks) (f : (kvs.all (·.1.flatKey)) = true) : IsK G g H (dPutN kvs kd dv) (putK ks (keyD kd) v) := by
  unfold dPutN putK
  rw [anyK fk h f]
  split
  · exact mapK fk iv h f
  · rw [keep_flat fk]
    refine isK_append h ?_
    simp only [IsK]
    rw [kV_keyD fk ik] at ik
    exact ⟨ik, iv, trivial⟩
theorem anyT {l : List D} (fl : (l.all D.flatKey) = true) : ∀ {kvs : List (D × D)} {ks : List (List Key × V)}, IsT G g H kvs ks → (kvs.any fun p => keyEq p.1 (.tupw l)) = ks.any fun kv => decide (kv.1 = l.map keyD)
  | [], [], _ => rfl
  | (k', d) :: r, (q, v) :: s, h => by
    cases k' with
    | tup a =>
      simp only [IsT] at h
      obtain ⟨f1, f2⟩ := isL_flat h.1
      rw [List.any_cons, List.any_cons, anyT fl h.2.2]
      simp only [keyEq]
      rw [keyEqL_iff f1 fl, f2]
    | _ => simp only [IsT] at h
  | [], _ :: _, h => by simp only [IsT] at h
  | (k, _) :: _, [], h => by cases k <;> simp only [IsT] at h
theorem mapT {l : List D} {dv : D} {v : V} (fl : (l.all D.flatKey) = true) (iv : Is G g H dv v) : ∀ {kvs : List (D × D)} {ks : List (List Key × V)}, IsT G g H kvs ks →
    IsT G g H (kvs.map fun p => if keyEq p.1 (.tupw l) then (p.1, dv) else p) (ks.map fun kv => if kv.1 = l.map keyD then (kv.1, v) else kv)
  | [], [], _ => by simp only [List.map_nil, IsT]
  | (k', d) :: r, (q, w) :: s, h => by
    cases k' with
    | tup a =>
      simp only [IsT] at h
      obtain ⟨f1, f2⟩ := isL_flat h.1
      have hk : keyEq (.tup a) (.tupw l) = decide (q = l.map keyD) := by
        simp only [keyEq]
        rw [keyEqL_iff f1 fl, f2]
      rw [List.map_cons, List.map_cons]
      dsimp only
      rw [hk]
      by_cases e : q = l.map keyD
      · rw [if_pos (decide_eq_true e), if_pos e]
        simp only [IsT]
        exact ⟨h.1, iv, mapT fl iv h.2.2⟩
      · rw [if_neg (by simpa using e), if_neg e]
        simp only [IsT]
        exact ⟨h.1, h.2.1, mapT fl iv h.2.2⟩
    | _ => simp only [IsT] at h
  | [], _ :: _, h => by simp only [IsT] at h
  | (k, _) :: _, [], h => by cases k <;> simp only [IsT] at h
theorem putT_is {l : List D} {dv : D} {v : V} (fl : (l.all D.flatKey) = true) {q : List Key} (eq : q = l.map keyD) (il : IsL G g H l (q.map kV)) (iv : Is G g H dv v) {kvs : List (D × D)} {ks : List (List Key × V)} (h : IsT G g H kvs ks) : IsT G g H (dPutN kvs (.tupw l) dv) (putK ks q v) ∧ dPutN kvs (.tupw l) dv ≠ [] := by
  subst eq
  unfold dPutN putK
  rw [anyT fl h]
  split
  · rename_i ha
    refine ⟨mapT fl iv h, fun z => ?_⟩
    have := List.map_eq_nil_iff.mp z
    subst this
    cases ks with
    | nil => simp at ha
    | cons _ _ => simp only [IsT] at h
  · refine ⟨isT_append h ?_, by simp⟩
    show IsT G g H [(.tup l, dv)] _
    simp only [IsT]
    exact ⟨il, iv, trivial⟩
theorem isK_next {a : Addr} {u : HO} (hm : Mut (H a)) {kvs : List (D × D)} {ks : List (Key × V)} (h : IsK G g H kvs ks) : IsK G g (upd H a u) kvs ks := h.nextI ⟨⟨[], by simp⟩, fun b o h n => by
    rw [upd_ne fun z => n (by rw [← z, h] at hm; exact hm)]
    exact h⟩
theorem isT_next {a : Addr} {u : HO} (hm : Mut (H a)) {kvs : List (D × D)} {ks : List (List Key × V)} (h : IsT G g H kvs ks) : IsT G g (upd H a u) kvs ks := h.nextI ⟨⟨[], by simp⟩, fun b o h n => by
    rw [upd_ne fun z => n (by rw [← z, h] at hm; exact hm)]
    exact h⟩
/-- an empty dict is one of tuple keys, too -/
theorem Inv.toT {a : Addr} (I : Inv X pins σ H s) (h : H a = some (.dK [])) : Inv X pins σ (upd H a (.dT [])) s := by
  obtain ⟨hd, o, es, ep, ho, hx, hdat, he, _, nd⟩ := emptyT I (.inl h)
  have := I.write (x := a) (e := a) (o := .dT []) (h' := s.heap) (t' := s.toks) (by rw [h]; trivial) (.inl rfl) (fun b u _ e => e) ⟨o, ho⟩ ⟨Nat.zero_le _, hd, [], .nil, o, es, ep, ho, hx, hdat, he, List.nodup_nil⟩
  exact this
theorem upd_upd' {H : Hp} {a : Addr} {u w : HO} : L2.upd (L2.upd H a u) a w = L2.upd H a w := by
  funext b
  unfold L2.upd
  by_cases e : b = a <;> simp [e]
theorem isT_len : ∀ {kvs : List (D × D)} {ks : List (List Key × V)}, IsT G g H kvs ks → kvs.length = ks.length
  | [], [], _ => rfl
  | (k, d) :: r, (q, v) :: s, h => by
    cases k with
    | tup l =>
      simp only [IsT] at h
      exact congrArg Nat.succ (isT_len h.2.2)
    | _ => simp only [IsT] at h
  | [], _ :: _, h => by simp only [IsT] at h
  | (k, _) :: _, [], h => by cases k <;> simp only [IsT] at h
/-- o[k] = v on objects -/
def rPut (G : Ga) (f : MO → D → D → Option MO) (x y z : V) (H : Hp) (Q : Hp → Prop) : Prop := ∃ g a o kd dv o', x = .ref a ∧ OIs G g H a o ∧ Is G g H kd y ∧ Is G g H dv z ∧ f o kd dv = some o' ∧ ∀ u, OIs G g (upd H a u) a o' → Q (upd H a u)
theorem put_ok (c : XJ X G W) : PSet X (rPut G pLst) := by
  intro pins s σ H x y z ov iv u Q I rx ry rz hh
  obtain ⟨g, a, o, kd, dv, o', rfl, q1, iy, iz, e, q⟩ := hh
  have hu := c.room.units
  cases o with
  | ins _ _ => cases kd <;> cases e
  | lst ds =>
    have hkd : ∃ i, kd = .int i := by cases kd <;> first | exact ⟨_, rfl⟩ | cases e
    obtain ⟨i, rfl⟩ := hkd
    obtain ⟨j, hj, rfl⟩ := Option.map_eq_some_iff.mp e
    cases iy
    obtain ⟨vs, h, r⟩ := q1
    have hm := lst_mut h
    rw [ixD_eq, r.length] at hj
    exact set_list pins s σ H _ _ z ov iv u Q I rx ry rz ⟨a, vs, _, j, rfl, rfl, h, hj, q _ ⟨_, upd_same, ois_upd hm trivial (isL_set j r iz) rfl⟩⟩
  | dic kvs =>
    have e : (if (dOk kvs kd && okLen (kvs.length + 1)) = true then some (MO.dic (dPutN kvs kd dv)) else none) = some o' := by cases kd <;> exact e
    split at e
    · rename_i hf
      rw [Bool.and_eq_true] at hf
      cases e
      have hl := of_decide_eq_true hf.2
      have hsz : sizeLine = 16777216 := sizeLine_eq
      cases rx
      have fin : ∀ {H2 H' : Hp}, Inv X pins σ H2 s → DPut H2 a y z H' → Q H' → wpAny (model X.prog X.w) X.A (setItem (.ref a) iv u) (fun _ s' => ∃ H', Inv X pins σ H' s' ∧ Q H') X.xe s :=
        fun I2 dp q => d_setItem (by omega) I2 dp ry rz fun s' I' => ⟨_, I', q⟩
      have hk := hf.1
      unfold dOk at hk
      by_cases hf1 : (kd.flatKey && kvs.all (·.1.flatKey)) = true
      · rw [Bool.and_eq_true] at hf1
        have ey := kV_keyD hf1.1 iy
        subst ey
        rcases q1 with ⟨ks, h, r⟩ | ⟨ks, h, ne, r⟩
        · have hm : Mut (H a) := by rw [h]; trivial
          exact fin I (DPut.k h (by rw [← isK_len r]; omega)) (q _ (.inl ⟨_, upd_same, isK_next hm (putK_is hf1.1 iy iz r hf1.2)⟩))
        · exact absurd (isT_keys r hf1.2).1 ne
      · rw [Bool.or_eq_true] at hk
        have hk := hk.resolve_left hf1
        rw [Bool.and_eq_true] at hk
        cases kd with
        | tupw l =>
          have fl : (l.all D.flatKey) = true := hk.1
          simp only [Is] at iy
          obtain ⟨b, vs, rfl, hb, il⟩ := iy
          have ev := flat_vals fl il
          subst ev
          rcases q1 with ⟨ks, h, r⟩ | ⟨ks, h, ne, r⟩
          · obtain ⟨e1, e2⟩ := isK_tups r hk.2
            subst e1 e2
            have hm : Mut (H a) := by rw [h]; trivial
            have I2 := Inv.toT I h
            have eb : b ≠ a := fun z => by rw [z, h] at hb; cases hb
            have ht := putT_is (kvs := []) (ks := []) fl rfl il iz (by simp only [IsT])
            have := q (.dT (putK [] (l.map keyD) z)) (.inr ⟨_, upd_same, ht.2, isT_next hm ht.1⟩)
            rw [← upd_upd' (H := H) (a := a) (u := .dT [])] at this
            exact fin I2 (DPut.t upd_same (by rw [upd_ne eb]; exact hb) (by simp; omega)) this
          · have hm : Mut (H a) := by rw [h]; trivial
            have ht := putT_is fl rfl il iz r
            exact fin I (DPut.t h hb (by rw [← isT_len r]; omega)) (q _ (.inr ⟨_, upd_same, ht.2, isT_next hm ht.1⟩))
        | _ => cases hk.1
    · cases e
theorem ps_put {o i value : Expr} {pos pos' : Pos} {tv td ty : TE} {t : V → V → V → Hp → (Hp → Prop) → Prop} (hp : PSet X t) (hv : PE X value tv) (ho : PE X o td) (hi : PE X i ty) (hs : swapsWith value (some (.Subscript o i pos')) pos.line X.env = pure false) :
    PS X (.Assign [.Subscript o i pos'] value pos) (fun D σ H => tv σ H fun z H1 => td σ H1 fun x H2 => ty σ H2 fun y H3 => t x y z H3 (D.nx σ)) := by
  refine ⟨fun pins s σ H D I h => ?_⟩
  refine wpAny_Assign_Subscript (thn (hv.run pins s σ H _ I h) fun r s1 ⟨z, H1, I1, rv, q1⟩ => thn (ho.run pins s1 σ H1 _ I1 q1) fun u s2 ⟨x, H2, I2, rx, q2⟩ => thn (hi.run pins s2 σ H2 _ I2 q2) fun iv s3 ⟨y, H3, I3, ry, q3⟩ => ?_) hs
  exact thn (hp pins s3 σ H3 x y z u iv r _ I3 rx ry rv q3) fun _ s4 ⟨H4, I4, q4⟩ => ⟨σ, H4, I4, q4⟩
theorem okPut (c : XJ X G W) {o i value : Expr} {pos pos' : Pos} {mv mi : EM D} {mo : EM PV} (hv : PUI X G W value mv) (ho : PPI X G W o mo) (hi : PUI X G W i mi) (hs : swapsWith value (some (.Subscript o i pos')) pos.line X.env = pure false := by rfl) :
    PSI X G W (.Assign [.Subscript o i pos'] value pos) (sPut pLst mv mo mi) :=
  PS.imp (ps_put (put_ok c) hv ho hi hs) fun D σ H ⟨g, e, M, R, h⟩ => ⟨g, e, M, R, (PostS.bind h).mono fun d e1 M1 _ k1 z H1 g1 N1 R1 iz => ⟨g1, e1, M1, R1, (PostS.bind (k1.from N1)).mono fun p e2 M2 _ k2 x H2 g2 N2 R2 ip => ⟨g2, e2, M2, R2, (PostS.bind (k2.from N2)).mono fun kd e3 M3 _ k3 y H3 g3 N3 R3 iy => by
    have k4 := PostS.bind (σ := σ) (k3.from N3)
    obtain ⟨a, ob, dd, o', e4, M4, rfl, q1, q2, k5, q3⟩ := chg_ok R3 (ip.next N3) k4
    obtain ⟨o2, q4, q5⟩ := Option.map_eq_some_iff.mp q2
    cases q5
    refine ⟨g3, a, ob, kd, d, o', rfl, q1, iy, (iz.next N2).next N3, q4, fun u hu => ?_⟩
    obtain ⟨N4, R4⟩ := q3 u hu
    exact k5 σ _ g3 N4 R4⟩⟩⟩
/-! new dicts; shared objects; one operand -/
theorem okShare {e : Expr} {m : EM SV} (he : PEI X G W e m) : PEI X G W e (eShare m) :=
  PE.imp he fun σ H Q ⟨g, e, M, R, h⟩ => ⟨g, e, M, R, (PostR.bind h).mono fun s e1 M1 _ k1 v H1 g1 N1 R1 r => by
    cases s with
    | val d => exact k1 v H1 g1 N1 R1 r
    | own o =>
      obtain ⟨a, rfl, q, z, m, ns⟩ := r
      have NI : NextI g1 H1 ⟨g1.Z, g1.μ ++ [a]⟩ H1 := ⟨⟨[a], rfl⟩, fun _ _ h _ => h⟩
      have N : Next g1 H1 ⟨g1.Z, g1.μ ++ [a]⟩ H1 := ⟨rfl, ⟨[a], rfl⟩, fun _ _ => rfl, fun _ _ h _ => h⟩
      have HR : HRel G ⟨g1.Z, g1.μ ++ [a]⟩ H1 (M1 ++ [o]) := by
        refine ⟨R1.ZH, by simp [R1.len], ?_, fun b hb => ?_, fun n b u h1 h2 => ?_⟩
        · refine List.nodup_append.mpr ⟨R1.nd, by simp, fun x hx y hy => ?_⟩
          simp at hy
          subst hy
          exact fun z => m (z ▸ hx)
        · rcases List.mem_append.mp hb with hb | hb
          · exact R1.mZ b hb
          · simp at hb
            subst hb
            exact z
        · by_cases hn : n < g1.μ.length
          · rw [List.getElem?_append_left hn] at h1
            rw [List.getElem?_append_left (by rw [← R1.len]; exact hn)] at h2
            exact (R1.ob n b u h1 h2).nextI NI rfl
          · have hn' : g1.μ.length ≤ n := by omega
            rw [List.getElem?_append_right hn'] at h1
            rw [List.getElem?_append_right (by rw [← R1.len]; exact hn'), ← R1.len] at h2
            have hz : n - g1.μ.length = 0 := by
              have := (List.getElem?_eq_some_iff.mp h1).1
              simp at this
              omega
            rw [hz] at h1 h2
            cases h1
            cases h2
            exact q.nextI NI rfl
      refine k1 (.ref a) H1 _ (N1.trans N) ⟨HR, R1.el, fun i d h => let ⟨v, e2, q2⟩ := R1.sl i d h; ⟨v, e2, q2.nextI NI⟩, fun i u h => ?_, R1.di⟩ ?_
      · obtain ⟨b, e2, q2, zb, mb⟩ := R1.ow i u h
        refine ⟨b, e2, q2.nextI NI rfl, zb, fun hb => ?_⟩
        rcases List.mem_append.mp hb with hb | hb
        · exact mb hb
        · simp at hb
          subst hb
          exact ns i u h e2
      · show Is G _ H1 (.obj M1.length) (.ref a)
        simp only [Is]
        exact ⟨a, rfl, by rw [← R1.len]; simp⟩⟩
/-! comprehensions assigned -/
theorem okLcSet (c : XI X G W k) {elt tg iter : Expr} {ifs : List Expr} {scope : Scope} {own : List (Str × Nat)} {t : PI.TG} {it : EM (List D)} {cnd : EM Bool} {x : EM D} {is : List Nat} {i : Nat} {y : Str} {py pos spos : Pos} (hi : PII X G W tg iter it) (ok : BlkOk X.N X.env.scope scope own)
    (hg : ∀ (s : Shared) (H : Hp) (C : Addr) (cl : List (Str × Addr)) (fp : List Addr), PGI (X.blk s H scope (compEnvC scope cl C X.env) fp) G tg t is) (his : ∀ i ∈ is, i ∈ own.map (·.2))
    (ht : ∀ (s : Shared) (H : Hp) (C : Addr) (cl : List (Str × Addr)) (fp : List Addr), PTs (X.blk s H scope (compEnvC scope cl C X.env) fp) ifs (tT G W0 cnd))
    (he : ∀ (s : Shared) (H : Hp) (C : Addr) (cl : List (Str × Addr)) (fp : List Addr), PUI (X.blk s H scope (compEnvC scope cl C X.env) fp) G W0 elt x)
    (hy : X.N[i]? = some y := by rfl) (hyl : X.env.scope.names.lookup y = some .local := by rfl) (hsw : swapsWith (.ListComp elt [⟨tg, iter, ifs, 0⟩] scope pos) (some (.Name y py)) spos.line X.env = pure true := by exact sw_true rfl rfl rfl rfl)
    (hs : ∀ x, foldedSetIterable iter X.env x = pure x := by intro _; rfl) :
    PSI X G W (.Assign [.Name y py] (.ListComp elt [⟨tg, iter, ifs, 0⟩] scope pos) spos) (sSet i (eLc t it cnd x (own.map (·.2)))) := by
  refine ⟨fun pins s σ H D I ⟨g, e0, M, R, h⟩ => ?_⟩
  exact (ps_setLc c.calm c.nd hy hyl hsw hi ok hg ht he hs).run pins s σ H D I (okLc c hi ok hg his ht he hs σ H _ ⟨g, e0, M, R, (PostS.bind h).mono fun sv e1 M1 _ k1 v H1 g1 N1 R1 r => k1 _ H1 g1 N1 (R1.put (idx_lt I hy) r)⟩)
end
end PI
/-! PISndG: dicts walked: keys, values, items. -/
namespace PI
open PySem PySem.Spec PyProof.Rows L2
end PI
/-! PISndH: calls with keywords. -/
namespace PI
open PySem PySem.Spec PyProof.Rows L2
theorem paired_filterMap {α β : Type} {R : α → β → Prop} {ss : List Src} {f : Src → Option α} {h : Src → Option β} (hfh : ∀ s, (∃ a b, f s = some a ∧ h s = some b ∧ R a b) ∨ (f s = none ∧ h s = none)) : Paired R (ss.filterMap f) (ss.filterMap h) := by
  induction ss with
  | nil => exact .nil
  | cons s ss ih =>
    rcases hfh s with ⟨a, b, e1, e2, r⟩ | ⟨e1, e2⟩
    · rw [List.filterMap_cons_some e1, List.filterMap_cons_some e2]
      exact .cons r ih
    · rw [List.filterMap_cons_none e1, List.filterMap_cons_none e2]
      exact ih
theorem vals_at {vs : List V} {us : List Value} (r : Vals vs us) (j : Nat) : (∃ a b, vs[j]? = some a ∧ us[j]? = some b ∧ RelV a b) ∨ (vs[j]? = none ∧ us[j]? = none) := by
  cases e : vs[j]? with
  | some v =>
    obtain ⟨u, e2, q⟩ := r.get e
    exact .inl ⟨v, u, rfl, e2, q⟩
  | none =>
    refine .inr ⟨rfl, ?_⟩
    rw [List.getElem?_eq_none_iff] at e ⊢
    rw [← r.length]; exact e
theorem pickL_vals {ss : List Src} {vs ds zs : List V} {us its ws : List Value} (r1 : Vals vs us) (r2 : Vals ds its) (r3 : Vals zs ws) : Vals (pickL ss vs ds zs) (pickL ss us its ws) := by
  unfold pickL
  refine paired_filterMap fun s => ?_
  cases s with
  | p j => exact vals_at r1 j
  | d j => exact vals_at r2 j
  | k j => exact vals_at r3 j
section
variable {X : Cx} {G : Ga} {W : WX} {k : Nat} {f : Addr} {fd : FuncData} {ps : List Str} {sem : FT} {pos p : Pos} {x : Str} {a : Expr} {es : List Expr} {g : Gs} {H : Hp}
theorem isL_fm {ss : List Src} {f : Src → Option D} {h : Src → Option V} (hfh : ∀ s, (∃ a b, f s = some a ∧ h s = some b ∧ Is G g H a b) ∨ (f s = none ∧ h s = none)) : IsL G g H (ss.filterMap f) (ss.filterMap h) := by
  induction ss with
  | nil => simp [IsL]
  | cons s ss ih =>
    rcases hfh s with ⟨a, b, e1, e2, r⟩ | ⟨e1, e2⟩
    · rw [List.filterMap_cons_some e1, List.filterMap_cons_some e2]
      simp only [IsL]
      exact ⟨r, ih⟩
    · rw [List.filterMap_cons_none e1, List.filterMap_cons_none e2]
      exact ih
theorem isL_pick {ss : List Src} {ds dd zs : List D} {vs vd vz : List V} (r1 : IsL G g H ds vs) (r2 : IsL G g H dd vd) (r3 : IsL G g H zs vz) : IsL G g H (pickL ss ds dd zs) (pickL ss vs vd vz) := by
  have key : ∀ {ds : List D} {vs : List V}, IsL G g H ds vs → ∀ j : Nat, (∃ a b, ds[j]? = some a ∧ vs[j]? = some b ∧ Is G g H a b) ∨ (ds[j]? = none ∧ vs[j]? = none) := fun {ds vs} r j => by
    cases e : ds[j]? with
    | some d =>
      obtain ⟨v, e2, q⟩ := r.get e
      exact .inl ⟨d, v, rfl, e2, q⟩
    | none =>
      refine .inr ⟨rfl, ?_⟩
      rw [List.getElem?_eq_none_iff] at e ⊢
      rw [← r.length]; exact e
  unfold pickL
  refine isL_fm fun s => ?_
  cases s with
  | p j => exact key r1 j
  | d j => exact key r2 j
  | k j => exact key r3 j
abbrev PKI (X : Cx) (G : Ga) (W : WX) (kws : List Keyword) (m : EM (List D)) : Prop := PK X kws (tA G W m)
theorem PK.imp {kws : List Keyword} {t t' : TA} (h : PK X kws t) (w : ∀ σ H Q, t' σ H Q → t σ H Q) : PK X kws t' := ⟨fun p pins s σ H Q I q => h.run p pins s σ H Q I (w σ H Q q)⟩
theorem okKNil : PKI X G W [] eNil := PK.imp pk_nil fun σ H Q ⟨g, e, M, R, h⟩ => h [] H g (Next.refl _ _) R (by simp only [IsL])
theorem okKCons {nm : Option Str} {kpos : Pos} {kws : List Keyword} {m : EM D} {mr : EM (List D)} (ha : PUI X G W a m) (hr : PKI X G W kws mr) : PKI X G W (⟨nm, a, kpos⟩ :: kws) (eCons m mr) :=
  PK.imp (pk_cons ha hr) fun σ H Q ⟨g, e, M, R, h⟩ => ⟨g, e, M, R, (PostR.bind h).mono fun d e1 M1 _ k v H1 g1 N1 R1 r => ⟨g1, e1, M1, R1, ((PostR.bind k).from N1).mono fun ds e2 M2 _ k2 vs H2 g2 N2 R2 r2 => k2 (v :: vs) H2 g2 (N1.trans N2) R2 (by
    simp only [IsL]
    exact ⟨r.next N2, r2⟩)⟩⟩
/-! lengths of arguments -/
def LenIs {α : Type} (m : EM (List α)) (n : Nat) : Prop := ∀ e M ds e' M', m e M = .ok ds e' M' → ds.length = n
theorem lenNil {α : Type} : LenIs (eNil : EM (List α)) 0 := fun e M ds e' M' h => by cases h; rfl
theorem lenCons {α : Type} {m : EM α} {r : EM (List α)} {n : Nat} (h : LenIs r n) : LenIs (eCons m r) (n + 1) := fun e M ds e' M' h1 => by
  unfold eCons at h1
  simp only [bind_ap] at h1
  cases hm : m e M with
  | ok d e1 M1 =>
    rw [hm] at h1
    simp only [bind_ok, bind_ap] at h1
    cases hr : r e1 M1 with
    | ok xs e2 M2 =>
      rw [hr] at h1
      cases h1
      exact congrArg Nat.succ (h _ _ _ _ _ hr)
    | err x e2 M2 => rw [hr] at h1; cases h1
    | stuck => rw [hr] at h1; cases h1
  | err x e1 M1 => rw [hm] at h1; cases h1
  | stuck => rw [hm] at h1; cases h1
end
end PI
namespace PI
/-- the script as my value -/
def scriptD (ns : List Int) : D := .lst (ns.map D.int)
end PI
/-! PIEnd: a law's end: the law's def answers True by my function. -/
namespace PI
open PySem PySem.Spec PyProof.Rows L2
theorem isL_ints {G : Ga} {g : Gs} {H : Hp} : ∀ ns : List Int, IsL G g H (ns.map D.int) (ns.map V.int)
  | [] => by simp [IsL]
  | n :: ns => by
    simp only [List.map_cons, IsL]
    exact ⟨by simp only [Is], isL_ints ns⟩
section
variable {P : Program} {w : World} {G : Ga} {mg mb : Str → Option Value} {k : Nat} {fa a : Addr} {fd : FuncData} {x : Str} {sem : FT} {s : Shared} {us : List Value} {ns : List Int}
/-- the law's def, called with the script -/
theorem lawI (inK : G.K.In s.heap) (n1 : s.heap.Ns mainGlobals mg) (n2 : s.heap.Ns builtinsNs mb) (n3 : ∀ x : Str, x ≠ "__name__" → mb x = bootBuiltins x) (lim : s.heap.NoLimit) (noG : s.gens = #[])
    (at' : s.heap.get? a = some { cls := .type "list", data := .seq us.toArray }) (are : IntsAre us ns) (few : ns.length ≤ sizeLine) (room : Room k callerA ∧ callerA.guards = some [])
    (F : ∀ base : Heap, G.K.In base → base.Ns mainGlobals mg → FnI P w G mg base k fa fd [x] sem) (bind : ∀ (s : Shared) (u : Value), BindsTo s fd ⟨[u], []⟩ [(x, u)])
    (good : ∃ M, sem [scriptD ns] [] = .ok (.val (.bl true)) M) :
    codeAny (model P w) callerA (.call (.ref fa) ⟨[.ref a], []⟩) (fun r s' => r = .ok (.ret (.bool true)) ∧ OldK s.heap s'.heap ∧ s'.os = s.os ∧ AllBare s'.gens) s := by
  have rv := vals_ints are
  have main : ∀ H : Hp, Only H → LF H G.K a (ns.map V.int) → HOk P w H s.heap → (∀ b, H b ≠ none → b = a) → (H a ≠ none → G.K.lookup a = none) →
      codeAny (model P w) callerA (.call (.ref fa) ⟨[.ref a], []⟩) (fun r s' => r = .ok (.ret (.bool true)) ∧ OldK s.heap s'.heap ∧ s'.os = s.os ∧ AllBare s'.gens) s := by
    intro H only lf ok sole fresh
    have under : ∀ {b : Addr} {o : Obj}, s.heap.get? b = some o → H b = none → (hidT s.heap H).get? b = some o := fun e n => hidT_get e n
    have free : ∀ {b : Addr} {o : Obj} {es : Array DictEntry} {ep : Nat}, s.heap.get? b = some o → o.data = .dict es ep → H b = none := fun {b o es ep} e d => by
      cases q : H b with
      | none => rfl
      | some u =>
        obtain rfl : b = a := sole b (by rw [q]; exact fun z => nomatch z)
        rw [at'] at e
        cases e
        exact nomatch (show Data.seq us.toArray _ = Data.dict es ep from d)
    have names : ∀ {b : Addr} {m : Str → Option Value}, s.heap.Ns b m → (hidT s.heap H).Ns b m := fun {b m} ⟨o, es, ep, e, d, r⟩ => ⟨o, es, ep, under e (free e d), d, r⟩
    have kin : G.K.In (hidT s.heap H) := fun b o e => under (inK b o e) (by
      cases q : H b with
      | none => rfl
      | some u =>
        obtain rfl : b = a := sole b (by rw [q]; exact fun z => nomatch z)
        rw [fresh (by rw [q]; exact fun z => nomatch z)] at e
        cases e)
    have md : Mod G.K mg (hidT s.heap H) := ⟨kin, names n1, ⟨mb, names n2, n3⟩, let ⟨mc, h1, h2⟩ := lim; ⟨mc, names h1, h2⟩⟩
    have env : Env0 P w G.K mg (hidT s.heap H) callerA [] s H := ⟨rfl, md, fun b o e => of_hidT e, Nat.le_of_eq (hidT_size _ _), trivial, fun b hb => absurd (show b ∈ ([] : List Addr) from hb) (by simp), ok, .of_eq noG⟩
    obtain ⟨M, hM⟩ := good
    have start : SpI G 1 sem [.ref a] H (fun v _ => v = .bl true) fun _ _ _ => False := by
      refine ⟨⟨fun b => ∃ o, H b = some o, []⟩, [scriptD ns], [], ⟨fun b h => h, rfl, List.nodup_nil, fun b hb => (nomatch hb), fun n b o h1 h2 => by simp at h1⟩, fun b h _ => h, ?_, rfl, ?_⟩
      · simp only [IsL]
        refine ⟨?_, trivial⟩
        show Is G _ H (.lst (ns.map D.int)) (.ref a)
        simp only [Is]
        exact ⟨a, _, rfl, lf, isL_ints ns⟩
      · rw [hM]
        exact fun v H' g' N R r => r
    refine codeAny_mono ((F _ kin (names n1)).run callerA [] s H ⟨[.ref a], []⟩ [.ref a] [.ref a] _ _ ⟨room.1, fun _ => room.2, _, room.2⟩ env (bind s (.ref a)) (.cons rfl .nil) start) fun r s' h => ?_
    cases r with
    | error e =>
      obtain ⟨_, _, _, _, _, _, _, _, _, _, _, _, z⟩ := h
      exact z.elim
    | ok fl =>
      cases fl with
      | next => exact h.elim
      | brk => exact h.elim
      | cont => exact h.elim
      | ret u =>
        obtain ⟨v, H', os, bare, un, hok', r', q⟩ := h
        obtain rfl : v = .bl true := q
        obtain rfl : u = Value.bool true := r'
        refine ⟨rfl, OldK.of_keep fun b o e => ?_, os, bare⟩
        cases q : H b with
        | none => exact un.keep b o e q (fun z => nomatch (show b ∈ ([] : List Addr) from z)) (by simp)
        | some u =>
          rcases only b with z | ⟨ob, xs, z⟩
          · rw [q] at z; cases z
          · obtain ⟨e1, _⟩ := ok b _ z
            obtain ⟨e2, _⟩ := hok' b _ (un.frzs b ob _ z)
            rw [e] at e1
            cases e1
            exact e2
  have lenU := are.length
  cases hk : G.K.lookup a with
  | some o =>
    have e := inK a o hk
    rw [at'] at e
    cases e
    exact main (fun _ => none) (fun _ => .inl rfl) (.inr ⟨us, _, hk, by rw [lenU]; exact few, rv⟩) (fun b u z => nomatch (show (none : Option HO) = some u from z)) (fun b z => absurd rfl z) fun z => absurd rfl z
  | none =>
    refine main (fun b => if b = a then some (.frz { cls := .type "list", data := .seq us.toArray } (.lst (ns.map V.int))) else none) (fun b => ?_) (.inl ⟨{ cls := .type "list", data := .seq us.toArray }, if_pos rfl⟩) (fun b u z => ?_) (fun b z => ?_) fun _ => hk
    · by_cases hb : b = a
      · exact .inr ⟨_, _, if_pos hb⟩
      · exact .inl (if_neg hb)
    · by_cases hb : b = a
      · subst hb
        cases (if_pos rfl).symm.trans z
        exact ⟨at', by rw [List.length_map]; exact few, us, _, rv, at'⟩
      · exact nomatch (if_neg hb).symm.trans z
    · by_cases hb : b = a
      · exact hb
      · exact absurd (if_neg hb) z
end
/-- a law by my function -/
theorem walkI {l : PySem.W.OpenLaw} {n k : Nat} {q : Program} {loose : List Str} {XP : (Str → Option Value) → Heap → Prop} {YP : World → Heap → Prop} {d : DefRec} {x : Str} {sem : FT}
    (hn : l.most = some n) (hn2 : n ≤ sizeLine) (hdf : d.params.defaults = []) (room : Room k callerA ∧ callerA.guards = some [])
    (F : ∀ (w : World) (mg : Str → Option Value) (fa : Addr) (h : Heap), YP w h → h.Ns mainGlobals mg → mg d.name = some (.ref fa) →
      ∃ (G : Ga) (fd : FuncData), G.K.In h ∧ (∀ (s : Shared) (u : Value), BindsTo s fd ⟨[u], []⟩ [(x, u)]) ∧ ∀ base : Heap, G.K.In base → base.Ns mainGlobals mg → FnI l.prog w G mg base k fa fd [x] sem)
    (good : ∀ ns : List Int, ns.length ≤ n → ∃ M, sem [scriptD ns] [] = .ok (.val (.bl true)) M) :
    PySem.W.WalkO q loose XP YP l.row.toRowW d [] (fun f vs => PySem.call f vs) := by
  refine Att.attach_call hn hdf fun w s₀ s1 mg mb fa o pm cd doc a vs ns Gr Y ho hd hcd hmg hobj hints hlen hg => ?_
  obtain ⟨G, fd, inK, hb, hF⟩ := F w mg fa _ Y Gr.T.g hmg
  exact lawI inK Gr.T.g Gr.T.b Gr.T.builtins Gr.T.nolimit hg hobj hints (Nat.le_trans hlen hn2) room hF hb (good ns hlen)
end PI
/-! PISndI: enumerate of lists and tuples, zip. -/
namespace PI
open PySem PySem.Spec PyProof.Rows L2
end PI
/-! PISndJ: least of data, join, methods of lists or tuples. -/
namespace PI
open PySem PySem.Spec PyProof.Rows L2
section
variable {prog : Program} {w : World} {A : Around} {E : Value → Shared → Prop} {s : Shared}
/-- the least of a list, at its place -/
theorem min_list_at {l : Addr} {vs : Array Value} {x : PyData} {xs : List PyData} {as : List Addr} {Q : Value → Shared → Prop} (hh : A.handled = none) (hl : s.heap.IsList l vs) (hr : ReadsAll s.heap vs.toList (x :: xs) as) (ha : PySem.W.AlikeAll (x :: xs)) (hu : A.units + 1 + PyData.depthAll (x :: xs) < cLine)
    (h : ∀ v h' tk, vs[argBest (fun i j => PySem.W.dataLt ((x :: xs).getD i .none) ((x :: xs).getD j .none)) xs.length]? = some v → (∀ b o, s.heap.get? b = some o → h'.get? b = some o) → Q v { s with heap := h', toks := tk }) :
    wpAny (model prog w) A (call (.builtin "min") [.ref l]) Q E s := by
  have hn : vs.size = xs.length + 1 := PySem.W.readsAll_len hr
  refine call_min_walkH (PySem.W.iter_listW (A := A.in1) hh hl fun s₂ e W st hfp hw hk => ?_)
  refine ⟨_, _, _, _, _, _, _, s.heap, _, rfl, W, st, hfp, by omega, hw, hk, PySem.W.cmpIn_lt (A := A.in1) hr ha (by show A.units + 1 + _ < _; exact hu), fun v s' hP m => ?_⟩
  obtain ⟨h', tk, rfl, hk'⟩ := PySem.W.moved_old e rfl m
  have e1 : vs.size - 1 = xs.length := by omega
  rw [e1] at hP
  exact h v h' tk hP hk'
/-- min(a, b) by a heap -/
theorem call_min_twoH {a b : Value} {Q : Value → Shared → Prop}
    (h : wpAny (model prog w) A.in1 (pyIter (.ref s.heap.objs.size)) (fun it s₂ => ∃ I fp wr G n P St H bt, it = .ref I ∧ WalksS prog w A.in1 I fp wr G n P St ∧ St 0 s₂ ∧ (∀ b ∈ fp, b < s₂.heap.objs.size) ∧ 0 < n ∧
      (∀ b o, H.get? b = some o → b ∉ wr) ∧ (∀ b o, H.get? b = some o → s₂.heap.get? b = some o) ∧ CmpIn prog w A.in1 .Lt H P bt ∧ ∀ v s', P (argBest bt (n - 1)) v → Moved wr G s₂ s' → Q v s') E
      { s with heap := s.heap.push { cls := .type "tuple", data := .seq #[a, b] } }) :
    wpAny (model prog w) A (call (.builtin "min") [a, b]) Q E s := by
  have hname : (toString "min" ++ toString ".loop" : String) = "min.loop" := by decide
  refine call_function_tree F.kind_min F.plain_min F.entry_min (F.args_min2 _ _) ?_
  show wpAny _ A.in1 (Builtin.Builtins.bindParams "min" ["key", "default"] 0 ⟨[], []⟩ >>= _) _ _ s
  refine wpAny_bind (wpAny_of_eq (show Builtin.Builtins.bindParams "min" ["key", "default"] 0 ⟨[], []⟩ = pure [none, none] from rfl) ?_)
  show wpAny _ A.in1 (newTuple [a, b] >>= _) _ _ s
  refine wpAny_bind (wpAny_newObj_type ?_)
  refine wpAny_bind (wpAny_mono h (fun it s₂ h₂ => ?_) fun _ _ e => e)
  obtain ⟨I, fp, wr, G, n, P, St, H, bt, rfl, W, hst, hfp, hn, hw, hkeep, hcmp, hQ⟩ := h₂
  refine wpAny_bind (wpAny_newObj_type ?_)
  have hSf : s₂.heap.objs.size ∉ fp := fun hm => Nat.lt_irrefl _ (hfp _ hm)
  rw [hname]
  refine wpAny_pure ⟨plainId_quiet F.plain_min_loop _, codeAny_min_loop_firstH W H hw bt hcmp s₂.heap.objs.size hSf (fresh_in hkeep) _ hn (fun b o e => Heap.get?_push_of_some _ (hkeep b o e)) (W.frame 0 s₂ _ s₂.toks hst (Nat.le_refl _) fun b _ o e => Heap.get?_push_of_some _ e) (Heap.get?_push_size _ rfl) fun v s' hP hm => ?_⟩
  exact hQ v s' hP (Moved.drop_new (tk := s₂.toks) hm (Nat.le_refl _))
theorem min_two_at {a b : Value} {p q : PyData} {as : List Addr} {Q : Value → Shared → Prop} (hh : A.handled = none) (hr : ReadsAll s.heap [a, b] [p, q] as) (ha : PySem.W.AlikeAll [p, q]) (hu : A.units + 1 + PyData.depthAll [p, q] < cLine)
    (h : ∀ v h' tk, (#[a, b] : Array Value)[argBest (fun i j => PySem.W.dataLt ([p, q].getD i .none) ([p, q].getD j .none)) 1]? = some v → (∀ b o, s.heap.get? b = some o → h'.get? b = some o) → Q v { s with heap := h', toks := tk }) :
    wpAny (model prog w) A (call (.builtin "min") [a, b]) Q E s := by
  have ht : (s.heap.push { cls := .type "tuple", data := .seq #[a, b] }).IsTuple s.heap.objs.size #[a, b] := ⟨_, Heap.get?_push_size _ rfl, rfl, 0, rfl⟩
  have kp : ∀ c o, s.heap.get? c = some o → (s.heap.push { cls := .type "tuple", data := .seq #[a, b] }).get? c = some o := fun c o e => Heap.get?_push_of_some _ e
  refine call_min_twoH (PySem.W.iter_tupleW (A := A.in1) hh ht fun s₂ e W st hfp hw hk => ?_)
  have hr2 : ReadsAll (s.heap.push { cls := .type "tuple", data := .seq #[a, b] }) (#[a, b] : Array Value).toList [p, q] as := ReadsAll.keeps kp hr
  refine ⟨_, _, _, _, _, _, _, _, _, rfl, W, st, hfp, Nat.zero_lt_succ _, hw, hk, PySem.W.cmpIn_lt (s := { s with heap := s.heap.push { cls := .type "tuple", data := .seq #[a, b] } }) (A := A.in1) hr2 ha (by show A.units + 1 + _ < _; exact hu), fun v s' hP m => ?_⟩
  obtain ⟨h', tk, rfl, hk'⟩ := PySem.W.moved_old e rfl m
  exact h v h' tk hP fun c o e => hk' c o (kp c o e)
end
section
variable {X : Cx} {G : Ga} {W : WX} {k : Nat} {g : Gs} {H : Hp} {pins : List (Addr × Obj)} {σ : St} {s : Shared}
theorem minOk_parts {ps : List PyData} (h : minOk ps = true) : PySem.W.AlikeAll ps ∧ PyData.depthAll ps ≤ 60 := by
  simp only [minOk, alikeL, Bool.and_eq_true, List.all_eq_true, decide_eq_true_eq] at h
  refine ⟨⟨fun x hx y hy => h.1.1 x hx y hy, fun x hx e => ?_⟩, h.2⟩
  have := h.1.2 x hx
  subst e
  cases this
/-- the place of the least, on my values -/
theorem best_at {x : D} {xs : List D} {p : PyData} {ps : List PyData} (e : datL (x :: xs) = some (p :: ps)) (i : Nat) (d : D) (h : (x :: xs)[i]? = some d) (hi : i = argBest (fun i j => PySem.W.dataLt ((p :: ps).getD i .none) ((p :: ps).getD j .none)) ps.length) : d = minFold x xs := by
  have len : ∀ {ds : List D} {qs : List PyData}, datL ds = some qs → ds.length = qs.length := by
    intro ds
    induction ds with
    | nil => intro qs h; cases h; rfl
    | cons d ds ih =>
      intro qs h
      simp only [datL] at h
      cases e1 : dat d with
      | none => rw [e1] at h; cases h
      | some p =>
        rw [e1] at h
        obtain ⟨ps', e2, rfl⟩ := Option.map_eq_some_iff.mp h
        exact congrArg Nat.succ (ih e2)
  have get : ∀ {ds : List D} {qs : List PyData} (j : Nat), datL ds = some qs → ∀ d, ds[j]? = some d → dat d = some (qs.getD j .none) := by
    intro ds
    induction ds with
    | nil => intro qs j h d hd; simp at hd
    | cons d ds ih =>
      intro qs j h y hy
      simp only [datL] at h
      cases e1 : dat d with
      | none => rw [e1] at h; cases h
      | some p =>
        rw [e1] at h
        obtain ⟨ps', e2, rfl⟩ := Option.map_eq_some_iff.mp h
        cases j with
        | zero => simp at hy; subst hy; simpa using e1
        | succ j => simpa using ih j e2 y (by simpa using hy)
  have hl := len e
  simp only [List.length_cons, Nat.add_right_cancel_iff] at hl
  have eqf : ∀ kk, kk ≤ xs.length → argBest (fun i j => PySem.W.dataLt ((p :: ps).getD i .none) ((p :: ps).getD j .none)) kk = argBest (fun i j => ltD ((x :: xs).getD i .non) ((x :: xs).getD j .non)) kk ∧ argBest (fun i j => PySem.W.dataLt ((p :: ps).getD i .none) ((p :: ps).getD j .none)) kk ≤ kk := by
    intro kk
    induction kk with
    | zero => intro _; exact ⟨rfl, Nat.le_refl _⟩
    | succ kk ih =>
      intro hk
      obtain ⟨i1, i2⟩ := ih (by omega)
      have a1 : (x :: xs)[kk + 1]? = some ((x :: xs).getD (kk + 1) .non) := by
        rw [List.getD_eq_getElem?_getD]
        rw [List.getElem?_eq_getElem (by simp; omega)] <;> rfl
      have a2 : (x :: xs)[argBest (fun i j => PySem.W.dataLt ((p :: ps).getD i .none) ((p :: ps).getD j .none)) kk]? = some ((x :: xs).getD (argBest (fun i j => PySem.W.dataLt ((p :: ps).getD i .none) ((p :: ps).getD j .none)) kk) .non) := by
        rw [List.getD_eq_getElem?_getD]
        rw [List.getElem?_eq_getElem (by simp only [List.length_cons]; omega)] <;> rfl
      have b1 := get (kk + 1) e _ a1
      have b2 := get _ e _ a2
      have : ltD ((x :: xs).getD (kk + 1) .non) ((x :: xs).getD (argBest (fun i j => PySem.W.dataLt ((p :: ps).getD i .none) ((p :: ps).getD j .none)) kk) .non) = PySem.W.dataLt ((p :: ps).getD (kk + 1) .none) ((p :: ps).getD (argBest (fun i j => PySem.W.dataLt ((p :: ps).getD i .none) ((p :: ps).getD j .none)) kk) .none) := by
        unfold ltD
        rw [b1, b2]
      constructor
      · have c1 : ∀ (f : Nat → Nat → Bool), argBest f (kk + 1) = if f (kk + 1) (argBest f kk) = true then kk + 1 else argBest f kk := fun f => rfl
        rw [c1, c1]
        simp only [← i1, this]
      · have c1 : ∀ (f : Nat → Nat → Bool), argBest f (kk + 1) = if f (kk + 1) (argBest f kk) = true then kk + 1 else argBest f kk := fun f => rfl
        rw [c1]
        split
        · exact Nat.le_refl _
        · omega
  have f := (PySem.W.argBest_fold ltD .non x xs xs.length (Nat.le_refl _)).2
  rw [List.take_length] at f
  obtain ⟨q1, _⟩ := eqf xs.length (Nat.le_refl _)
  rw [← hl, q1] at hi
  rw [← hi] at f
  rw [List.getD_eq_getElem?_getD, h] at f
  exact f
theorem datL_cons {x : D} {xs : List D} {qs : List PyData} (h : datL (x :: xs) = some qs) : ∃ p ps, qs = p :: ps := by
  simp only [datL] at h
  cases e1 : dat x with
  | none => rw [e1] at h; cases h
  | some p =>
    rw [e1] at h
    obtain ⟨ps', e2, rfl⟩ := Option.map_eq_some_iff.mp h
    exact ⟨p, ps', rfl⟩
theorem ok_minD (c : XI X G W k) : CallR X (.builtin "min") (rB G fMinD) := by
  intro pins s σ H xs us Q I r ⟨g, M, ds, rr, R, w, e, q⟩
  have hu := c.room.units
  unfold fMinD at e
  cases e0 : fMin ds with
  | some r0 =>
    rw [e0] at e
    cases e
    exact ok_min c pins s σ H xs us Q I r ⟨g, M, ds, _, R, w, e0, q⟩
  | none =>
    rw [e0] at e
    simp only at e
    split at e
    · rename_i x xs'
      unfold fMinA at e
      cases e1 : datL (x :: xs') with
      | none => rw [e1] at e; cases e
      | some qs =>
        obtain ⟨p, ps, rfl⟩ := datL_cons e1
        rw [e1] at e
        have e : (if minOk (p :: ps) = true then sv (minFold x xs') else none) = some rr := e
        split at e
        · rename_i ok
          cases e
          obtain ⟨k1, k2⟩ := minOk_parts ok
          obtain ⟨v, rfl, h⟩ := vwl1 w
          obtain ⟨a, vs, rfl, q1, r1⟩ := vw_lst h
          rw [← c.K] at q1
          rw [Vals.ref1 r]
          obtain ⟨its, rv, hl, hz⟩ := I.list q1
          obtain ⟨as, rd, _⟩ := Is.readsL c.K I r1 e1 rv
          refine min_list_at (vs := its.toArray) (I.ok.hd c.calm) hl.isList (by simpa using rd) k1 (by omega) fun u h' tk hP hk => ?_
          have hP : its[argBest (fun i j => PySem.W.dataLt ((p :: ps).getD i .none) ((p :: ps).getD j .none)) ps.length]? = some u := by simpa using hP
          obtain ⟨hlt, _⟩ := List.getElem?_eq_some_iff.mp hP
          have hlv : its.length = vs.length := rv.length.symm
          have hld : (x :: xs').length = vs.length := r1.length
          have hd : (x :: xs')[argBest (fun i j => PySem.W.dataLt ((p :: ps).getD i .none) ((p :: ps).getD j .none)) ps.length]? = some ((x :: xs')[argBest (fun i j => PySem.W.dataLt ((p :: ps).getD i .none) ((p :: ps).getD j .none)) ps.length]'(by rw [hld, ← hlv]; exact hlt)) := List.getElem?_eq_getElem _
          obtain ⟨v, hv, iv⟩ := r1.get hd
          obtain ⟨u', hu', ru⟩ := rv.get hv
          rw [hP] at hu'
          cases hu'
          have := best_at e1 _ _ hd rfl
          rw [this] at iv
          exact ⟨v, H, I.kept (t' := tk) hk, ru, q _ _ (Grow.refl _) iv⟩
        · cases e
    · rename_i x y
      split at e
      · rename_i hst
        rw [Bool.and_eq_true] at hst
        unfold fMinA at e
        cases e1 : datL [x, y] with
        | none => rw [e1] at e; cases e
        | some qs =>
          rw [e1] at e
          have e : (if minOk qs = true then sv (minFold x [y]) else none) = some rr := e
          split at e
          · rename_i ok
            cases e
            obtain ⟨k1, k2⟩ := minOk_parts ok
            obtain ⟨v, v', rfl, h1, h2⟩ := vwl2 w
            obtain ⟨u, u', rfl, ru, ru'⟩ := vals2 r
            obtain ⟨p, p', rfl, d1, d2⟩ : ∃ p p', qs = [p, p'] ∧ dat x = some p ∧ dat y = some p' := by
              simp only [datL] at e1
              cases ex : dat x with
              | none => rw [ex] at e1; cases e1
              | some p =>
                cases ey : dat y with
                | none => rw [ex, ey] at e1; cases e1
                | some p' => rw [ex, ey] at e1; cases e1; exact ⟨p, p', rfl, rfl, rfl⟩
            obtain ⟨as, rd, _⟩ := Vw.reads c.K I h1 d1 ru
            obtain ⟨as', rd', _⟩ := Vw.reads c.K I h2 d2 ru'
            refine min_two_at (I.ok.hd c.calm) (.cons rd (.cons rd' .nil)) k1 (by omega) fun z h' tk hP hk => ?_
            have I2 := I.kept (t' := tk) hk
            have b := best_at (i := argBest (fun i j => PySem.W.dataLt ([p, p'].getD i .none) ([p, p'].getD j .none)) 1) e1
            have le : argBest (fun i j => PySem.W.dataLt ([p, p'].getD i .none) ([p, p'].getD j .none)) 1 = 0 ∨ argBest (fun i j => PySem.W.dataLt ([p, p'].getD i .none) ([p, p'].getD j .none)) 1 = 1 := by
              have c1 : ∀ (f : Nat → Nat → Bool), argBest f 1 = if f 1 0 = true then 1 else 0 := fun f => rfl
              rw [c1]
              split
              · exact .inr rfl
              · exact .inl rfl
            rcases le with le | le
            · rw [le] at b hP
              have ez : z = u := by simpa using hP.symm
              subst ez
              have := b x rfl le.symm
              exact ⟨v, H, I2, ru, q _ _ (Grow.refl _) (by rw [← this]; exact vw_still hst.1 h1)⟩
            · rw [le] at b hP
              have ez : z = u' := by simpa using hP.symm
              subst ez
              have := b y rfl le.symm
              exact ⟨v', H, I2, ru', q _ _ (Grow.refl _) (by rw [← this]; exact vw_still hst.2 h2)⟩
          · cases e
      · cases e
    · cases e
/-! join -/
/-! one of two -/
theorem PEI.or2 {e : Expr} {m m1 m2 : EM SV} (h1 : PEI X G W e m1) (h2 : PEI X G W e m2) (hd : ∀ e M, m e M = m1 e M ∨ m e M = m2 e M) : PEI X G W e m := by
  refine ⟨fun pins s σ H Q I ⟨g, e0, M, R, h⟩ => ?_⟩
  rcases hd e0 M with q | q
  · exact h1.run pins s σ H Q I ⟨g, e0, M, R, by rw [← q]; exact h⟩
  · exact h2.run pins s σ H Q I ⟨g, e0, M, R, by rw [← q]; exact h⟩
theorem now_pure (p : PV) (e : PI.Env) (M : MH) : (∃ d, p.now e M = .ok d e M) ∨ p.now e M = .stuck := by
  cases p with
  | v d =>
    cases d with
    | obj n =>
      simp only [PV.now]
      cases M[n]? with
      | none => exact .inr rfl
      | some o => exact .inl ⟨_, rfl⟩
    | _ => exact .inl ⟨_, rfl⟩
  | sl i =>
    simp only [PV.now]
    cases e.getD i none with
    | none => exact .inr rfl
    | some s => exact .inl ⟨_, rfl⟩
theorem eM2_or (f1 f2 : D → List D → Option SV) (a : EM PV) (es : EM (List PV)) (e : PI.Env) (M : MH) : eM2 f1 f2 a es e M = eM .list f1 a es e M ∨ eM2 f1 f2 a es e M = eM .tuple f2 a es e M := by
  unfold eM2 eM
  simp only [bind_ap]
  cases a e M with
  | err _ _ _ => exact .inl rfl
  | stuck => exact .inl rfl
  | ok p e1 M1 =>
    simp only [bind_ok, bind_ap]
    rcases now_pure p e1 M1 with ⟨d, q⟩ | q
    · rw [q]
      simp only [bind_ok]
      by_cases h : Ty.list.has d = true
      · rw [if_pos h, if_pos h]
        exact .inl rfl
      · rw [if_neg h, if_neg h]
        by_cases h2 : Ty.tuple.has d = true
        · rw [if_pos h2]
          exact .inr rfl
        · rw [if_neg h2]
          exact .inl rfl
    · rw [q]
      exact .inl rfl
theorem okM2 {e : Expr} {f1 f2 : D → List D → Option SV} {a : EM PV} {es : EM (List PV)} (h1 : PEI X G W e (eM .list f1 a es)) (h2 : PEI X G W e (eM .tuple f2 a es)) : PEI X G W e (eM2 f1 f2 a es) := h1.or2 h2 (eM2_or f1 f2 a es)
end
end PI
/-! PISndK: sums from a start, name op= e, xs[::-1]. -/
namespace PI
open PySem PySem.Spec PyProof.Rows L2
section
variable {X : Cx} {G : Ga} {W : WX} {k : Nat} {g : Gs} {H : Hp} {pins : List (Addr × Obj)} {σ : St} {s : Shared} {pos : Pos} {e : Expr} {es : List Expr}
/-! ### xs[::-1] -/
/-! ### built-ins with keywords -/
def rBK (G : Ga) (f : List D → List D → Option SV) : List V → List V → Hp → VK → Prop := fun vs zs H Q => ∃ g M ds es r, HRel G g H M ∧ VwL G g H ds vs ∧ VwL G g H es zs ∧ f ds es = some r ∧ ∀ v H', Grow H H' → NewSV G g H H' v r → Q v H'
theorem vwL_of {g : Gs} {H : Hp} : ∀ {ds : List D} {vs : List V}, IsL G g H ds vs → VwL G g H ds vs
  | [], [], _ => trivial
  | d :: ds, v :: vs, h => by
    simp only [IsL] at h
    exact ⟨.inl h.1, vwL_of h.2⟩
  | [], _ :: _, h => by simp only [IsL] at h
  | _ :: _, [], h => by simp only [IsL] at h
theorem okBK {x : Str} {id : String} {f : List D → List D → Option SV} {ks : List Str} {m : EM (List PV)} {mk : EM (List D)} {kws : List Keyword} {p : Pos} (hc : CallRK X (.builtin id) ks (rBK G f)) (hm : X.mg x = none) (hv : bootBuiltins x = some (.builtin id)) (ha : PAPI X G W (e :: es) m) (hk : PKI X G W kws mk) (hg : Gl X x := by rfl)
    (hn : x ≠ "__name__" := by decide) (hdb : (x == ("__debug__" : Str)) = false := by decide)
    (he : backTo pos (starEach (e :: es) X.env) = (false, eval e X.env) :: backTo pos (starEach es X.env) := by rfl) (hpl : (backTo pos (starEach (e :: es) X.env)).any (·.1) = false := by rfl)
    (hall : (backToKw pos (keywordEach kws X.env)).all (·.1.isSome) = true := by rfl) (hnone : (backToKw pos (keywordEach kws X.env)).any (·.1.isNone) = false := by rfl) (hks : (backToKw pos (keywordEach kws X.env)).filterMap (·.1) = ks := by rfl) :
    PEI X G W (.Call (.Name x p) (e :: es) kws pos) (eBK f m mk) :=
  PE.imp (pe_callBK hc hg hm hv ha hk hn hdb he hpl hall hnone hks) fun σ H Q ⟨g, e, M, R, h⟩ => ⟨g, e, M, R, (PostR.bind h).mono fun ps e1 M1 _ k1 vs H1 g1 N1 R1 r => ⟨g1, e1, M1, R1, ((PostR.bind k1).from N1).mono fun dz e2 M2 _ k2 zs H2 g2 N2 R2 r2 => by
    obtain ⟨ds, k3, w⟩ := nowL_ok R2 (PVL.next N2 r) (PostR.bind ((k2.from N1).from N2))
    obtain ⟨rr, er, k4⟩ := lift_ok k3
    exact ⟨g2, M2, ds, dz, rr, R2.toHRel, w, vwL_of r2, er, fun v H' w n => k4 v H' g2 ((N1.trans N2).trans (R2.toHRel.grows w)) (R2.grow w) (n.sv R2 w)⟩⟩⟩
/-! ### x op= e -/
end
end PI
/-! PISndL: sorted(t) of a tuple. -/
namespace PI
open PySem PySem.Spec PyProof.Rows L2
end PI
/-! PILim: values seen from another state. -/
namespace PI
open PySem PySem.Spec PyProof.Rows L2
/-- two settings alike but for exceptions -/
structure GaEq (x : Bool) (G G' : Ga) : Prop where
  K : G'.K = G.K
  fa : G'.fa = G.fa
  ca : G'.ca = G.ca
  fld : G'.fld = G.fld
  xs : x = true → G'.xs = G.xs
theorem GaEq.refl (x : Bool) (G : Ga) : GaEq x G G := ⟨rfl, rfl, rfl, rfl, fun _ => rfl⟩
section
variable {G G' : Ga} {g g' : Gs} {H : Hp} {x : Bool} {b : Nat}
mutual
theorem Is.turn (e : GaEq x G G') (m : ∀ n, n < b → g'.μ[n]? = g.μ[n]?) : ∀ {d : D} {v : V}, d.lim x b = true → Is G g H d v → Is G' g' H d v
  | .non, _, _, h => h
  | .bl _, _, _, h => h
  | .int _, _, _, h => h
  | .str _, _, _, h => h
  | .tup ds, _, l, h => by
    simp only [D.lim] at l
    simp only [Is] at h ⊢
    obtain ⟨a, vs, q1, q, r⟩ := h
    exact ⟨a, vs, q1, by rw [e.K]; exact q, IsL.turn e m l r⟩
  | .tupw ds, _, l, h => by
    simp only [D.lim] at l
    simp only [Is] at h ⊢
    obtain ⟨a, vs, q1, q, r⟩ := h
    exact ⟨a, vs, q1, q, IsL.turn e m l r⟩
  | .lst ds, _, l, h => by
    simp only [D.lim] at l
    simp only [Is] at h ⊢
    obtain ⟨a, vs, q1, q, r⟩ := h
    exact ⟨a, vs, q1, by rw [e.K]; exact q, IsL.turn e m l r⟩
  | .dic kvs, _, l, h => by
    simp only [D.lim] at l
    simp only [Is] at h ⊢
    obtain ⟨a, o, q1, q⟩ := h
    refine ⟨a, o, q1, ?_⟩
    rcases q with ⟨ks, q, r⟩ | ⟨ks, q, r⟩
    · exact .inl ⟨ks, q, IsK.turn e m l r⟩
    · exact .inr ⟨ks, q, r.1, IsT.turn e m l r.2⟩
  | .ins c fs, _, l, h => by
    simp only [D.lim] at l
    simp only [Is] at h ⊢
    obtain ⟨a, dx, vfs, o, q1, q, r⟩ := h
    exact ⟨a, dx, vfs, o, q1, by rw [e.ca]; exact q, IsFl.turn e m l r⟩
  | .exn c fs, _, l, h => by
    simp only [D.lim, Bool.and_eq_true] at l
    simp only [Is] at h ⊢
    obtain ⟨a, dd, q1, q, r⟩ := h
    have q' : (c < 1000 ∧ G'.xs a c dd) ∨ (1000 ≤ c ∧ ∃ o u, H a = some (.frz o u) ∧ o.cls = .ref (G'.ca (c - 1000)) ∧ o.dict = dd ∧ ∃ vs, o.data = .fields vs) := by
      rcases q with ⟨z, q⟩ | ⟨z, q⟩
      · have lx : x = true := by
          rcases Bool.or_eq_true_iff.mp l.1 with lx | lx
          · exact lx
          · exact absurd (of_decide_eq_true lx) (by omega)
        exact .inl ⟨z, by rw [e.xs lx]; exact q⟩
      · exact .inr ⟨z, by rw [e.ca]; exact q⟩
    refine ⟨a, dd, q1, q', ?_⟩
    rcases r with r | ⟨d, vfs, e2, e3, r⟩
    · exact .inl r
    · exact .inr ⟨d, vfs, e2, e3, IsFx.turn e m l.2 r⟩
  | .obj n, _, l, h => by
    simp only [D.lim] at l
    simp only [Is] at h ⊢
    obtain ⟨a, q1, q⟩ := h
    exact ⟨a, q1, by rw [m n (of_decide_eq_true l)]; exact q⟩
  | .fn _, _, _, h => by
    simp only [Is] at h ⊢
    rw [e.fa]; exact h
  | .cls _, _, _, h => by
    simp only [Is] at h ⊢
    rw [e.ca]; exact h
  | .ty _, _, _, h => h
theorem IsL.turn (e : GaEq x G G') (m : ∀ n, n < b → g'.μ[n]? = g.μ[n]?) : ∀ {ds : List D} {vs : List V}, limL x b ds = true → IsL G g H ds vs → IsL G' g' H ds vs
  | [], [], _, _ => by simp only [IsL]
  | d :: ds, v :: vs, l, h => by
    simp only [limL, Bool.and_eq_true] at l
    simp only [IsL] at h ⊢
    exact ⟨Is.turn e m l.1 h.1, IsL.turn e m l.2 h.2⟩
  | [], _ :: _, _, h => by simp only [IsL] at h
  | _ :: _, [], _, h => by simp only [IsL] at h
theorem IsK.turn (e : GaEq x G G') (m : ∀ n, n < b → g'.μ[n]? = g.μ[n]?) : ∀ {ds : List (D × D)} {vs : List (Key × V)}, limK x b ds = true → IsK G g H ds vs → IsK G' g' H ds vs
  | [], [], _, _ => by simp only [IsK]
  | (k, d) :: ds, (q, v) :: vs, l, h => by
    simp only [limK, Bool.and_eq_true] at l
    simp only [IsK] at h ⊢
    exact ⟨Is.turn e m l.1.1 h.1, Is.turn e m l.1.2 h.2.1, IsK.turn e m l.2 h.2.2⟩
  | [], _ :: _, _, h => by simp only [IsK] at h
  | (_, _) :: _, [], _, h => by simp only [IsK] at h
theorem IsT.turn (e : GaEq x G G') (m : ∀ n, n < b → g'.μ[n]? = g.μ[n]?) : ∀ {ds : List (D × D)} {vs : List (List Key × V)}, limK x b ds = true → IsT G g H ds vs → IsT G' g' H ds vs
  | [], [], _, _ => by simp only [IsT]
  | (k, d) :: ds, (q, v) :: vs, l, h => by
    simp only [limK, Bool.and_eq_true] at l
    cases k with
    | tup ks =>
      simp only [D.lim] at l
      simp only [IsT] at h ⊢
      exact ⟨IsL.turn e m l.1.1 h.1, Is.turn e m l.1.2 h.2.1, IsT.turn e m l.2 h.2.2⟩
    | _ => simp only [IsT] at h
  | [], _ :: _, _, h => by simp only [IsT] at h
  | (_, _) :: _, [], _, h => by simp only [IsT] at h
theorem IsFl.turn (e : GaEq x G G') (m : ∀ n, n < b → g'.μ[n]? = g.μ[n]?) : ∀ {ds : List (Nat × D)} {vs : List (Str × V)}, limF x b ds = true → IsFl G g H ds vs → IsFl G' g' H ds vs
  | [], [], _, _ => by simp only [IsFl]
  | (k, d) :: ds, (q, v) :: vs, l, h => by
    simp only [limF, Bool.and_eq_true] at l
    simp only [IsFl] at h ⊢
    exact ⟨by rw [e.fld]; exact h.1, Is.turn e m l.1 h.2.1, IsFl.turn e m l.2 h.2.2⟩
  | [], _ :: _, _, h => by simp only [IsFl] at h
  | (_, _) :: _, [], _, h => by simp only [IsFl] at h
theorem IsFx.turn (e : GaEq x G G') (m : ∀ n, n < b → g'.μ[n]? = g.μ[n]?) : ∀ {ds : List (Nat × D)} {vs : List (Str × V)}, limF x b ds = true → IsFx G g H ds vs → IsFx G' g' H ds vs
  | [], _, _, _ => by simp only [IsFx]
  | (k, d) :: ds, vs, l, h => by
    simp only [limF, Bool.and_eq_true] at l
    simp only [IsFx] at h ⊢
    obtain ⟨⟨v, e1, q⟩, r⟩ := h
    exact ⟨⟨v, by rw [e.fld]; exact e1, Is.turn e m l.1 q⟩, IsFx.turn e m l.2 r⟩
end
mutual
/-- what stands names no shared object beyond those that are -/
theorem Is.lim (x : Bool) (nx : x = true ∨ ∀ a c d, ¬ G.xs a c d) : ∀ {d : D} {v : V}, Is G g H d v → d.lim x g.μ.length = true
  | .non, _, _ => by simp only [D.lim]
  | .bl _, _, _ => by simp only [D.lim]
  | .int _, _, _ => by simp only [D.lim]
  | .str _, _, _ => by simp only [D.lim]
  | .tup ds, _, h => by
    simp only [Is] at h
    obtain ⟨a, vs, q1, q, r⟩ := h
    simp only [D.lim]
    exact IsL.lim x nx r
  | .tupw ds, _, h => by
    simp only [Is] at h
    obtain ⟨a, vs, q1, q, r⟩ := h
    simp only [D.lim]
    exact IsL.lim x nx r
  | .lst ds, _, h => by
    simp only [Is] at h
    obtain ⟨a, vs, q1, q, r⟩ := h
    simp only [D.lim]
    exact IsL.lim x nx r
  | .dic kvs, _, h => by
    simp only [Is] at h
    obtain ⟨a, o, q1, q⟩ := h
    simp only [D.lim]
    rcases q with ⟨ks, q, r⟩ | ⟨ks, q, r⟩
    · exact IsK.lim x nx r
    · exact IsT.lim x nx r.2
  | .ins c fs, _, h => by
    simp only [Is] at h
    obtain ⟨a, dx, vfs, o, q1, q, r⟩ := h
    simp only [D.lim]
    exact IsFl.lim x nx r
  | .exn c fs, _, h => by
    simp only [Is] at h
    obtain ⟨a, dd, q1, q, r⟩ := h
    have hc : (x || decide (1000 ≤ c)) = true := by
      rcases nx with rfl | nx
      · rfl
      · rcases q with ⟨_, q⟩ | ⟨z, _⟩
        · exact absurd q (nx _ _ _)
        · rw [decide_eq_true z, Bool.or_true]
    simp only [D.lim, hc, Bool.true_and]
    rcases r with ⟨_, rfl⟩ | ⟨d, vfs, e2, e3, r⟩
    · simp only [limF]
    · exact IsFx.lim x nx r
  | .obj n, _, h => by
    simp only [Is] at h
    obtain ⟨a, q1, q⟩ := h
    simp only [D.lim]
    exact decide_eq_true (List.getElem?_eq_some_iff.mp q).1
  | .fn _, _, _ => by simp only [D.lim]
  | .cls _, _, _ => by simp only [D.lim]
  | .ty _, _, _ => by simp only [D.lim]
theorem IsL.lim (x : Bool) (nx : x = true ∨ ∀ a c d, ¬ G.xs a c d) : ∀ {ds : List D} {vs : List V}, IsL G g H ds vs → limL x g.μ.length ds = true
  | [], [], _ => by simp only [limL]
  | d :: ds, v :: vs, h => by
    simp only [IsL] at h
    simp only [limL, Bool.and_eq_true]
    exact ⟨Is.lim x nx h.1, IsL.lim x nx h.2⟩
  | [], _ :: _, h => by simp only [IsL] at h
  | _ :: _, [], h => by simp only [IsL] at h
theorem IsK.lim (x : Bool) (nx : x = true ∨ ∀ a c d, ¬ G.xs a c d) : ∀ {ds : List (D × D)} {vs : List (Key × V)}, IsK G g H ds vs → limK x g.μ.length ds = true
  | [], [], _ => by simp only [limK]
  | (k, d) :: ds, (q, v) :: vs, h => by
    simp only [IsK] at h
    simp only [limK, Bool.and_eq_true]
    exact ⟨⟨Is.lim x nx h.1, Is.lim x nx h.2.1⟩, IsK.lim x nx h.2.2⟩
  | [], _ :: _, h => by simp only [IsK] at h
  | (_, _) :: _, [], h => by simp only [IsK] at h
theorem IsT.lim (x : Bool) (nx : x = true ∨ ∀ a c d, ¬ G.xs a c d) : ∀ {ds : List (D × D)} {vs : List (List Key × V)}, IsT G g H ds vs → limK x g.μ.length ds = true
  | [], [], _ => by simp only [limK]
  | (k, d) :: ds, (q, v) :: vs, h => by
    cases k with
    | tup ks =>
      simp only [IsT] at h
      simp only [limK, D.lim, Bool.and_eq_true]
      exact ⟨⟨IsL.lim x nx h.1, Is.lim x nx h.2.1⟩, IsT.lim x nx h.2.2⟩
    | _ => simp only [IsT] at h
  | [], _ :: _, h => by simp only [IsT] at h
  | (_, _) :: _, [], h => by simp only [IsT] at h
theorem IsFl.lim (x : Bool) (nx : x = true ∨ ∀ a c d, ¬ G.xs a c d) : ∀ {ds : List (Nat × D)} {vs : List (Str × V)}, IsFl G g H ds vs → limF x g.μ.length ds = true
  | [], [], _ => by simp only [limF]
  | (k, d) :: ds, (q, v) :: vs, h => by
    simp only [IsFl] at h
    simp only [limF, Bool.and_eq_true]
    exact ⟨Is.lim x nx h.2.1, IsFl.lim x nx h.2.2⟩
  | [], _ :: _, h => by simp only [IsFl] at h
  | (_, _) :: _, [], h => by simp only [IsFl] at h
theorem IsFx.lim (x : Bool) (nx : x = true ∨ ∀ a c d, ¬ G.xs a c d) : ∀ {ds : List (Nat × D)} {vs : List (Str × V)}, IsFx G g H ds vs → limF x g.μ.length ds = true
  | [], _, _ => by simp only [limF]
  | (k, d) :: ds, vs, h => by
    simp only [IsFx] at h
    obtain ⟨⟨v, e1, q⟩, r⟩ := h
    simp only [limF, Bool.and_eq_true]
    exact ⟨Is.lim x nx q, IsFx.lim x nx r⟩
end
theorem OIs.lim (x : Bool) (nx : x = true ∨ ∀ a c d, ¬ G.xs a c d) {a : Addr} : ∀ {o : MO}, OIs G g H a o → o.lim x g.μ.length = true
  | .lst _, ⟨vs, q, r⟩ => r.lim x nx
  | .dic _, .inl ⟨ks, q, r⟩ => r.lim x nx
  | .dic _, .inr ⟨ks, q, r⟩ => r.2.lim x nx
  | .ins _ _, ⟨dx, vfs, q, r⟩ => r.lim x nx
/-- a value that hangs on no exception, no shared object, seen from anywhere -/
theorem Is.okR {d : D} {v : V} (e : GaEq false G G') (h : Is G g H d v) (l : d.okR = true) : Is G' g' H d v := Is.turn e (fun n hn => absurd hn (Nat.not_lt_zero n)) l h
theorem IsFx.okR {d : List (Nat × D)} {v : List (Str × V)} (e : GaEq false G G') (h : IsFx G g H d v) (l : limF false 0 d = true) : IsFx G' g' H d v := IsFx.turn e (fun n hn => absurd hn (Nat.not_lt_zero n)) l h
end
end PI
set_option maxHeartbeats 1000000
/-! PISndM: raise C(), isinstance of the handled exception. -/
namespace PI
open PySem PySem.Spec PyProof.Rows L2
theorem XJ.toXJ {X : Cx} {G : Ga} {W : WX} (c : XJ X G W) : XJ X G W := c
section
variable {X : Cx} {G : Ga} {W : WX} {k : Nat} {g : Gs} {H : Hp} {pins : List (Addr × Obj)} {σ : St} {s : Shared} {pos : Pos}
theorem pmk_own0 {C : Addr} {bmB : List Value} {B newId initId : String} {x : Str} {p pos : Pos} (F : ExcBaseFacts B newId initId bmB) (q : PySem.W.excIn X.K C bmB newId = true) (gC : X.mg x = some (.ref C)) (kC : PySem.W.keepIn X.K (.ref C) = true) (r : Raises X (.ref C)) (hg : Gl X x)
    (hdb : (x == ("__debug__" : Str)) = false := by decide) : L2N.PMk X (.Call (.Name x p) [] [] pos) (fun _ H Q => Q (.ref C) none H) := by
  intro pins s σ H Q I h
  refine wpAny_Call_Name_kw (ld_glob I hg gC ?_ hdb)
  refine PySem.W.callWith_K0 I.kIn kC ?_
  show wpAny _ _ (call (.ref C) []) _ _ _
  obtain ⟨bm, N, nm, qn, bs, hdct, sn, sub, ab, col, dd, k0, k1, k2, k3, k5, mN, hC, hN, hni, T⟩ := exc_obj I.kIn q
  refine wpAny_call_exc_subT F T hC hN hni (fun h' e hm => ?_) (by show 0 ≤ sizeLine; exact Nat.zero_le _)
  exact L2N.mk_of I hm r h (I.hok.gone hm.new)
/-- what must be known of an exception class -/
structure ExcR (K : PySem.W.Frag) (C : Addr) : Prop where
  q : PySem.W.excIn K C veB "ValueError.__new__" = true
  kp : PySem.W.keepIn K (.ref C) = true
  sb : PySem.W.subIn K (.ref C) (.type "BaseException") = some true
  ty : PySem.W.typeIn K (.ref C) = some (.type "type")
theorem okRaise (c : XI X G W k) (n : Nat) {x : Str} {p pos' : Pos} (E : ExcR X.K (G.ca n)) (gC : X.mg x = some (.ref (G.ca n))) (hg : Gl X x := by rfl)
    (hdb : (x == ("__debug__" : Str)) = false := by decide) : PSI X G W (.Raise (some (.Call (.Name x p) [] [] pos')) none pos) (sRaise n) :=
  PS.imp (L2N.ps_raise c.calm c.tk (pmk_own0 PySem.F.excBase_ValueError E.q gC E.kp (raises_own E.sb E.ty) hg hdb)) fun D σ H ⟨g, e0, M, R, h⟩ => h σ H g (.ref (G.ca n)) none (Next.refl _ _) R ⟨rfl, rfl⟩
end
/-! ### isinstance of the handled exception -/
/-- what is known of the classes below n: isinstance asks them rightly, and answers by mro -/
structure XcOk (G : Ga) (n : Nat) (mro : Nat → List D) (ks : List D) : Prop where
  ex : ∀ c, c < n → ExcC G.K (G.ca c)
  kit : ∀ c, c < n → ∀ k ∈ ks, k.isCls = true → PySem.W.kitOne G.K (.ref (G.ca c)) (clsV G k) = some ((mro c).any (isK k))
/-- the exception that is handled: p's object, of x's class, its dict d -/
structure HotX (G : Ga) (x : Xn) (p : Addr × Obj) (d : Option Addr) : Prop where
  z : L2N.Zn (.ref (G.ca x.c)) d p.2
  f : ∃ vs, p.2.data = .fields vs
def gaX (G : Ga) (x : Xn) (p : Addr × Obj) (d : Option Addr) : Ga := { G with xs := fun a c dd => a = p.1 ∧ c = x.c ∧ dd = d }
instance {G : Ga} {x : Xn} {p : Addr × Obj} {d : Option Addr} [h : PgT G] : PgT (gaX G x p d) := ⟨h.h⟩
theorem gaX_eq {G : Ga} {x : Xn} {p : Addr × Obj} {d : Option Addr} : GaEq false G (gaX G x p d) := ⟨rfl, rfl, rfl, rfl, fun h => nomatch h⟩
theorem gaX_eq' {G : Ga} {x : Xn} {p : Addr × Obj} {d : Option Addr} : GaEq false (gaX G x p d) G := ⟨rfl, rfl, rfl, rfl, fun h => nomatch h⟩
theorem isK_eq {a b : D} (h : isK a b = true) : a = b ∧ a.isCls = true := by
  unfold isK at h
  split at h
  · exact ⟨congrArg D.cls (eq_of_beq h), rfl⟩
  · exact ⟨congrArg D.ty (eq_of_beq h), rfl⟩
  · cases h
section
variable {X : Cx} {G : Ga} {W : WX} {k : Nat} {x : Xn} {p : Addr × Obj} {dX : Option Addr} {n : Nat} {mro : Nat → List D} {ks : List D}
theorem ok_isXG (hK : X.K = G.K) (hx : XcOk G n mro ks) (hxs : ∀ a c dd, G.xs a c dd → ∃ p ∈ X.pn, a = p.1 ∧ p.2.cls = .ref (G.ca c) ∧ p.2.dict = dd ∧ ∃ vs, p.2.data = .fields vs) : CallR X (.builtin "isinstance") (rB G (fIsX2 mro n ks)) := by
  intro pins s σ H xs us Q I r ⟨g, M, ds, rr, R, w, e, q⟩
  unfold fIsX2 at e
  split at e
  · rename_i c fs kk
    by_cases hc : (okK ks kk && decide (cN c < n)) = true
    · rw [if_pos hc] at e
      obtain ⟨hk, hlt⟩ := Bool.and_eq_true_iff.mp hc
      have hlt := of_decide_eq_true hlt
      obtain ⟨v1, v2, rfl, w1, w2⟩ := vwl2 w
      obtain ⟨u1, u2, rfl, r1, r2⟩ := vals2 r
      -- the exception
      have i1 : ∃ (a : Addr) (o : Obj) (odX : Option Obj), v1 = .ref a ∧ PySem.W.InstAt s.heap a o (G.ca (cN c)) odX := by
        rcases w1 with w1 | ⟨a, o, _, _, z⟩
        · simp only [Is] at w1
          obtain ⟨a, dd, rfl, w1, r⟩ := w1
          have raw : ∃ o : Obj, s.heap.get? a = some o ∧ o.cls = .ref (G.ca (cN c)) ∧ o.dict = dd ∧ ∃ vs, o.data = .fields vs := by
            rcases w1 with ⟨hlt, hxx⟩ | ⟨hge, o, u, hf, z⟩
            · obtain ⟨p, hp, rfl, z⟩ := hxs _ _ _ hxx
              obtain ⟨hget, _⟩ := I.pin p (List.mem_append.mpr (.inl hp))
              exact ⟨p.2, hget, by rw [show cN c = c from if_pos hlt]; exact z⟩
            · obtain ⟨hget, _⟩ := (show ObjOk X.prog X.w H s.heap a (.frz o u) from I.hok a _ hf)
              exact ⟨o, hget, by rw [show cN c = c - 1000 from if_neg (by omega)]; exact z⟩
          obtain ⟨o, hget, h1, h2, vs, hv⟩ := raw
          have nc : PySem.W.notCls o := by unfold PySem.W.notCls; rw [hv] <;> rfl
          rcases r with ⟨hd, _⟩ | ⟨d, vfs, hd, hxd, _⟩
          · exact ⟨a, o, none, rfl, hget, h1, nc, by rw [h2, hd] <;> trivial⟩
          · have ok := I.hok d _ hxd
            obtain ⟨od, ho⟩ : ∃ o, s.heap.get? d = some o := by
              obtain ⟨mA, ⟨o, es, ep, ho, _⟩, _⟩ := ok
              exact ⟨o, ho⟩
            exact ⟨a, o, some od, rfl, hget, h1, nc, by rw [h2, hd]; exact ho⟩
        · cases o <;> cases z
      obtain ⟨a, ob0, odX, rfl, J⟩ := i1
      cases (show u1 = Value.ref a from r1)
      have C := hx.ex (cN c) hlt
      have Z := PySem.W.kitx_exc (x := a) (ox := ob0) (od := odX) (by obtain ⟨cd, hc, _⟩ := PySem.W.any_some C.hd; rw [hc] <;> rfl) C.hg C.hk C.hs C.ha C.hn C.ht C.hm
      have KI : G.K.In s.heap := by rw [← hK]; exact I.kIn
      have one : ∀ (d : D) (v : V) (u : Value), okK ks d = true → d.isCls = true → Vw (G) g H d v → RelV v u → u = clsV G d ∧ PySem.W.kitOne G.K (.ref (G.ca (cN c))) u = some ((mro (cN c)).any (isK d)) := fun d v u ok hd iv rv => by
        have ee : ∃ kq ∈ ks, kq = d := by
          have ok2 : (ks.any fun k => isK k d) = true := by
            cases d <;> first | exact ok | cases hd
          obtain ⟨kq, hm, he⟩ := List.any_eq_true.mp ok2
          exact ⟨kq, hm, (isK_eq he).1⟩
        obtain ⟨_, hm, rfl⟩ := ee
        have ku := hx.kit (cN c) hlt _ hm hd
        rename_i d
        have eu : u = clsV G d := by
          cases d with
          | cls n' =>
            rcases iv with iv | ⟨a, o, _, _, z⟩
            · cases (show v = V.ref (G.ca n') from iv)
              exact rv
            · cases o <;> cases z
          | ty n' =>
            rcases iv with iv | ⟨a, o, _, _, z⟩
            · cases (show v = V.ty n' from iv)
              exact rv
            · cases o <;> cases z
          | _ => cases hd
        exact ⟨eu, by rw [eu]; exact ku⟩
      unfold fIsX at e
      simp only at e
      cases kk with
      | cls n' =>
        cases e
        obtain ⟨_, e2⟩ := one _ _ _ hk rfl w2 r2
        exact PySem.W.kia_one Z KI J e2 (fun z => nomatch z) fun tk => ⟨.bl _, H, I.tok tk, rfl, q _ _ (Grow.refl _) rfl⟩
      | ty n' =>
        cases e
        obtain ⟨_, e2⟩ := one _ _ _ hk rfl w2 r2
        exact PySem.W.kia_one Z KI J e2 (fun z => nomatch z) fun tk => ⟨.bl _, H, I.tok tk, rfl, q _ _ (Grow.refl _) rfl⟩
      | tup l =>
        have e : (if l.all D.isCls = true then some (l.any fun k => (mro (cN c)).any (isK k)) else none).map (fun b => SV.val (.bl b)) = some rr := e
        by_cases hl : l.all D.isCls = true
        · rw [if_pos hl] at e
          cases e
          obtain ⟨tp, vs', rfl, q1, r1'⟩ := vw_tup w2
          cases (show u2 = Value.ref tp from r2)
          have t1 := q1.t
          have t1' : SqT X.K H tp vs' := by rw [hK]; exact t1
          obtain ⟨its, rv, ⟨ob, ho, hoc, no, hod⟩, hz⟩ := I.tuple t1'
          obtain ⟨oc, od, dt, sl⟩ := ob
          simp only at hoc hod
          subst hoc hod
          have any : ∀ (l : List D) (vs' : List V) (its : List Value), okK ks (.tup l) = true → l.all D.isCls = true → IsL (G) g H l vs' → Vals vs' its → PySem.W.kitAny G.K (.ref (G.ca (cN c))) its = some (l.any fun k => (mro (cN c)).any (isK k)) := by
            intro l
            induction l with
            | nil =>
              intro vs' its _ _ hi hv
              cases vs' with
              | nil => cases hv; rfl
              | cons _ _ => simp only [IsL] at hi
            | cons d l ih =>
              intro vs' its ho ha hi hv
              cases vs' with
              | nil => simp only [IsL] at hi
              | cons v vs' =>
                cases hv with
                | cons rv1 rv2 =>
                  simp only [IsL] at hi
                  rw [List.all_cons, Bool.and_eq_true] at ha
                  have ho' : (d :: l).all (fun d => ks.any fun k => isK k d) = true := ho
                  rw [List.all_cons, Bool.and_eq_true] at ho'
                  have okd : okK ks d = true := by
                    cases d <;> first | exact ho'.1 | exact absurd ha.1 Bool.false_ne_true
                  obtain ⟨_, e2⟩ := one _ _ _ okd ha.1 (.inl hi.1) rv1
                  have e3 := ih _ _ ho'.2 ha.2 hi.2 rv2
                  rw [List.any_cons]
                  cases hb : (mro (cN c)).any (isK d) with
                  | true =>
                    rw [hb] at e2
                    show (match PySem.W.kitOne G.K (.ref (G.ca (cN c))) _ with | some true => some true | some false => _ | none => none) = _
                    rw [e2]
                    rfl
                  | false =>
                    rw [hb] at e2
                    show (match PySem.W.kitOne G.K (.ref (G.ca (cN c))) _ with | some true => some true | some false => _ | none => none) = _
                    rw [e2]
                    exact e3
          have e2 := any l vs' its hk hl r1' rv
          exact PySem.W.kia_tup Z KI J ho e2 (fun z => nomatch z) fun tk => ⟨.bl _, H, I.tok tk, rfl, q _ _ (Grow.refl _) rfl⟩
        · rw [if_neg hl] at e
          cases e
      | _ => cases e
    · rw [if_neg hc] at e
      cases e
  · cases e
theorem ok_isX (hK : X.K = G.K) (hx : XcOk G n mro ks) (hp : p ∈ X.pn) (hh : HotX G x p dX) : CallR X (.builtin "isinstance") (rB (gaX G x p dX) (fIsX2 mro n ks)) := by
  have hx' : XcOk (gaX G x p dX) n mro ks := ⟨hx.ex, hx.kit⟩
  exact ok_isXG hK hx' fun a c dd ⟨e1, e2, e3⟩ => ⟨p, hp, e1, by rw [e2]; exact hh.z.1, by rw [e3]; exact hh.z.2.1, hh.f⟩
/-- isinstance of exceptions as values -/
theorem ok_isE (hK : X.K = G.K) (hx : XcOk G n mro ks) (nx : ∀ a c dd, ¬ G.xs a c dd) : CallR X (.builtin "isinstance") (rB G (fIsX2 mro n ks)) := ok_isXG hK hx fun a c dd h => absurd h (nx a c dd)
end
end PI
set_option maxHeartbeats 1000000
/-! PISndN: a def that is called in an except suite; try: body, except C as e: return f(e). -/
namespace PI
open PySem PySem.Spec PyProof.Rows L2
/-- the exception's fields as they stand -/
def XfH (G : Ga) (g : Gs) (H : Hp) (x : Xn) : Option Addr → Prop
  | none => x.fs = []
  | some dd => ∃ vfs, H dd = some (.xd vfs) ∧ IsFx G g H x.fs vfs
/-- a def of one parameter, called with the handled exception: it gives a value -/
structure FnX (P : Program) (w : World) (G : Ga) (mg : Str → Option Value) (base : Heap) (k : Nat) (f : Addr) (fd : FuncData) (pn : Str) (n : Nat) (hw : Xn → Option D) : Prop where
  run : ∀ (A : Around) (outer : List PySem.Env) (s : Shared) (H : Hp) (args : Args) (p : Addr × Obj) (dX : Option Addr) (x : Xn) (g : Gs) (d : D) (Q : VK) (E : XK), L2H.RoomH k A → GdOk G.pg A → L2H.Hot1 A p → L2H.PinOk outer H s p → HotX G x p dX → x.c < n → XfH G g H x dX → limF false 0 x.fs = true → hw x = some d →
    Env0 P w G.K mg base A outer s H → BindsTo s fd args [(pn, .ref p.1)] → (∀ v H', Grow H H' → (∀ g', Is G g' H' d v) → Q v H') →
    codeAny (model P w) A (.call (.ref f) args) (CR (L2N.CX P w) outer P w H s Q E) s
theorem hotOf_mk {N : Nat} {b : EM Fl} {x : Xn} {d : D} (h : hotOf (mkF 1 N b) x = some d) : d.okR = true ∧ ∃ e', b (startE N [.exn x.c x.fs]) [] = .ok (.ret (.val d)) e' [] ∨ (d = .non ∧ b (startE N [.exn x.c x.fs]) [] = .ok .nx e' []) := by
  have hlt := hotOf_lt h
  unfold hotOf mkF at h
  rw [if_pos hlt] at h
  rw [if_pos (show ([D.exn x.c x.fs] : List D).length = 1 from rfl)] at h
  cases hb : b (startE N [.exn x.c x.fs]) [] with
  | stuck => rw [hb] at h; cases h
  | err xx e m => rw [hb] at h; cases h
  | ok fl e m =>
    rw [hb] at h
    cases fl with
    | nx =>
      cases m with
      | nil =>
        have h : (if (D.non).okR = true then some D.non else none) = some d := h
        by_cases ho : (D.non).okR = true
        · rw [if_pos ho] at h
          cases h
          exact ⟨ho, e, .inr ⟨rfl, rfl⟩⟩
        · rw [if_neg ho] at h; cases h
      | cons _ _ => cases h
    | bk => cases h
    | ct => cases h
    | ret sv =>
      cases sv with
      | own o => cases h
      | val d' =>
        cases m with
        | nil =>
          have h : (if d'.okR = true then some d' else none) = some d := h
          by_cases ho : d'.okR = true
          · rw [if_pos ho] at h
            cases h
            exact ⟨ho, e, .inl rfl⟩
          · rw [if_neg ho] at h; cases h
        | cons _ _ => cases h
section
variable {P : Program} {w : World} {G : Ga} {mg : Str → Option Value} {base : Heap} {xn qual : Str} {params : Arguments} {body : List Stmt} {scope : Scope} {dvs : List V} {kws : List (Str × V)} {f : Addr} {fd : FuncData} {k n : Nat}
theorem FnX.of {N : List Str} {pn : Str} {b : EM Fl} (F : FunD G.K xn qual params body scope dvs kws f fd) (S : FnScope N [pn] scope)
    (hb : ∀ (x : Xn) (p : Addr × Obj) (dX : Option Addr) (cdv : Value) (A : Around) (outer : List PySem.Env) (s : Shared) (H : Hp) (E : XK), HotX G x p dX → x.c < n → XJ (L2H.cxH (L2N.CX P w) P w G.K mg base N qual scope f cdv A outer s H E p) (gaX G x p dX) (fun cls d _ H => E cls d H) →
      PSsI (L2H.cxH (L2N.CX P w) P w G.K mg base N qual scope f cdv A outer s H E p) (gaX G x p dX) (fun cls d _ H => E cls d H) body b) :
    FnX P w G mg base (k + 1) f fd pn n (hotOf (mkF 1 N.length b)) := by
  obtain ⟨oc, od, dV, kV, doc, pm, an, cdv, ct, osl, rfl, lk, hcd, _, _⟩ := F.ex
  refine ⟨fun A outer s H args p dX x g0 d Q E hr hgd hot hpin hx hlt hxf hlim hw e0 hbd hQ => ?_⟩
  obtain ⟨hR, eb, hbr⟩ := hotOf_mk hw
  have h1000 := hotOf_lt hw
  have KX : G.K.In s.heap := e0.mod.kin.keeps fun b o e => (e0.bs b o e).1
  have lim : s.heap.NoLimit := e0.mod.nolimit.keeps fun b o e => (e0.bs b o e).1
  have hkind : ∀ y ∈ ([pn].zip [Value.ref p.1]), scope.names.lookup y.1 = some .local ∨ (scope.names.lookup y.1 = some .cell ∧ ((cellsFrom (s.heap.objs.size + 1) scope.names []).lookup y.1).isSome = true) := fun ⟨n, v⟩ hy => by
    rcases S.par n (List.of_mem_zip hy).1 with q | q
    · exact .inl q
    · exact .inr ⟨q, PySem.W.cellsFrom_some _ _ _ (.inl q)⟩
  refine codeAny_call_function hr.depth (KX _ _ lk) rfl S.co S.gen rfl (PySem.W.codeRec_of KX hcd) (hbd _ _ _ _ ?_)
  refine wpAny_newFunctionEnv_cells S.kind hkind fun env he s1 xx => ?_
  subst he
  refine ⟨lim.keeps xx.toInCall.keep, codeAny_func ?_⟩
  have r : Vals [V.ref p.1] [Value.ref p.1] := .cons rfl .nil
  have I : Inv (L2H.cxH (L2N.CX P w) P w G.K mg base N qual scope f cdv A outer s H E p) [] (L2.start N [V.ref p.1]) H s1 := L2H.inv_startH S hpin e0 rfl r xx
  have hN : [pn].length ≤ N.length := by have := congrArg List.length S.pre; rw [List.length_take] at this; omega
  have hr2 := hr.deeper (envOfC qual scope s.heap.objs.size f cdv)
  have c : XJ (L2H.cxH (L2N.CX P w) P w G.K mg base N qual scope f cdv A outer s H E p) (gaX G x p dX) (fun cls d _ H => E cls d H) :=
    ⟨rfl, S.nd, hr2.mono (Nat.zero_le _), guards_deeper hgd, L2N.takes_of rfl rfl rfl rfl, passes_of rfl⟩
  have body_ok := hb x p dX cdv A outer s H E hx hlt c
  have R0 : HRel (gaX G x p dX) ⟨fun a => ∃ o, H a = some o, []⟩ H [] := ⟨fun a h => h, rfl, .nil, fun a h => (nomatch h), fun n a o h1 h2 => by simp at h2⟩
  have q : IsL (gaX G x p dX) ⟨fun a => ∃ o, H a = some o, []⟩ H [.exn x.c x.fs] [V.ref p.1] := by
    simp only [IsL, Is]
    refine ⟨⟨p.1, dX, rfl, .inl ⟨h1000, rfl, rfl, rfl⟩, ?_⟩, trivial⟩
    cases dX with
    | none => exact .inl ⟨rfl, hxf⟩
    | some dd =>
      obtain ⟨vfs, e1, e2⟩ := hxf
      exact .inr ⟨dd, vfs, rfl, e1, e2.okR gaX_eq hlim⟩
  have RR := rel_start (N := N) R0 q (by simpa using hN)
  have fin : tS (gaX G x p dX) (fun cls d _ H => E cls d H) b { nx := fun _ H' => Q .non H', rt := Q } (L2.start N [V.ref p.1]) H := by
    refine ⟨_, startE N.length [.exn x.c x.fs], [], RR, ?_⟩
    have grow : ∀ {g' : Gs} {H' : Hp}, Next ⟨fun a => ∃ o, H a = some o, []⟩ H g' H' → Grow H H' := fun N' a o e => (N'.kZ a ⟨o, e⟩).trans e
    rcases hbr with hbr | ⟨rfl, hbr⟩
    · rw [hbr]
      intro v H' g' N' R' sv
      have sv : Is (gaX G x p dX) g' H' d v := sv
      exact hQ v H' (grow N') fun g2 => sv.okR gaX_eq' hR
    · rw [hbr]
      intro σ' H' g' N' R'
      exact hQ .non H' (grow N') fun g2 => rfl
  refine wpAny_mono (body_ok.run [] s1 (L2.start N [V.ref p.1]) H _ I fin) (fun fl s' hs => ?_) fun e s' hs => hs
  have fin2 : ∀ {σ' : St} {H' : Hp} {v : V} {u : Value}, Inv (L2H.cxH (L2N.CX P w) P w G.K mg base N qual scope f cdv A outer s H E p) [] σ' H' s' → RelV v u → Q v H' → CE outer P w H s Q u s' :=
    fun {σ' H' v u} J rv q => ⟨v, H', J.os, J.bare, J.base, J.hok, rv, q⟩
  cases fl with
  | ret u =>
    obtain ⟨v, σ', H', J, rv, q⟩ := hs
    exact fin2 J rv q
  | next =>
    obtain ⟨σ', H', J, q⟩ := hs
    exact fin2 (v := V.non) (u := Value.none) J rfl q
  | brk =>
    obtain ⟨_, _, _, q⟩ := hs
    exact False.elim q
  | cont =>
    obtain ⟨_, _, _, q⟩ := hs
    exact False.elim q
end
end PI
set_option maxHeartbeats 1000000
/-! PISndO: try: body, except C as e: return f(e). -/
namespace PI
open PySem PySem.Spec PyProof.Rows L2
section
variable {X : Cx} {G : Ga} {W : WX} {k n : Nat} {f CA : Addr} {fd : FuncData} {pn nm cx fx : Str} {hw : Xn → Option D} {sub : Nat → Bool} {i : Nat}
theorem XI.tr (c : XI X G W k) {pns : List (Addr × Obj)} {xe : Value → Shared → Prop} {W' : WX} (tk : L2N.Takes (X.tr pns xe) W') (po : PassesOwn (model X.prog X.w) X.A X.env xe) : XI (X.tr pns xe) G W' k :=
  ⟨⟨c.K, c.nd, c.room, c.gd, tk, po⟩, c.rm, c.calm, c.hd⟩
end
end PI
/-! PISet: set(xs), xs a list or a tuple of ints and texts: made, counted, sorted. -/
namespace PI
open PySem PySem.Spec PyProof.Rows L2
/-- the key that a value is -/
def kOf : Value → Key
  | .int i _ => .inl i
  | .str x _ => .inr x
  | _ => .inl 0
/-- an entry stands for its own key -/
def GoodK (w : World) (e : Int × Value) : Prop := keyIs (kOf e.2) e.2 = true ∧ e.1 = keyH w (kOf e.2)
/-- the set of the keys L at a -/
def SetM (w : World) (h : Heap) (a : Addr) (L : List Key) : Prop :=
  ∃ o es ep t, h.get? a = some o ∧ o.ExactSet ∧ o.data = .set es ep t ∧ (∀ e ∈ es.toList, GoodK w e) ∧ (es.toList.map fun e => kOf e.2).Perm L ∧ L.Nodup ∧ es.size < scanBound ∧ t.fits es.size = true ∧ Ris t.place.toList ∧
    (w.params.followText "set-order" = true ∨ t.led = true)
section
variable {P : Program} {w : World} {A : Around} {E : Value → Shared → Prop} {s : Shared} {a : Addr} {L : List Key}
theorem SetM.stay {h h' : Heap} (m : SetM w h a L) (k : ∀ o, h.get? a = some o → h'.get? a = some o) : SetM w h' a L := by
  obtain ⟨o, es, ep, t, e0, m⟩ := m
  exact ⟨o, es, ep, t, k o e0, m⟩
end
end PI
/-! PISet2: set(xs) of a list, a tuple (printed by gen_set.py). -/
namespace PI
open PySem PySem.Spec PyProof.Rows L2
end PI
/-! PISet3: sorted of a set, a dict; the number of a set. -/
namespace PI
open PySem PySem.Spec PyProof.Rows L2
end PI
/-! PISet4: sorted(xs), sorted(set(xs)), len(set(xs)). -/
namespace PI
open PySem PySem.Spec PyProof.Rows L2
end PI
/-! PISet5: sorted(set(xs)). -/
namespace PI
open PySem PySem.Spec PyProof.Rows L2
end PI
/-! PIGen: what the printed texts lean on. -/
namespace PI
open PySem PySem.Spec PyProof.Rows L2
/-- a def of the text that is known -/
structure Kn (P : Program) (w : World) (G : Ga) (mg : Str → Option Value) (base : Heap) (k : Nat) (x : Str) (ps : List Str) (sem : FT) (f : Addr) (fd : FuncData) : Prop where
  m : mg x = some (.ref f)
  kp : PySem.W.keepIn G.K (.ref f) = true
  fn : FnI P w G mg base k f fd ps sem
theorem Kn.mono {P : Program} {w : World} {G : Ga} {mg : Str → Option Value} {base : Heap} {j k : Nat} {x : Str} {ps : List Str} {sem : FT} {f : Addr} {fd : FuncData} (h : Kn P w G mg base j x ps sem f fd) (l : j ≤ k) : Kn P w G mg base k x ps sem f fd := ⟨h.m, h.kp, h.fn.mono l⟩
theorem FnI.none {P : Program} {w : World} {G : Ga} {mg : Str → Option Value} {base : Heap} {k : Nat} {ps : List Str} {f : Addr} {fd : FuncData} : FnI P w G mg base k f fd ps (fun _ _ => .stuck) :=
  ⟨fun A outer s H args us vs Q E hr e0 hb r hsp => by obtain ⟨g, ds, M, _, _, _, _, z⟩ := hsp; exact False.elim z⟩
/-- positional arguments, then the defaults dd -/
def Bd (G : Ga) (fd : FuncData) (ps : List Str) (dd : List D) : Prop := ∃ (dvs : List Value) (dv : List V), Binds G.K fd ps dvs ∧ Vals dv dvs ∧ ∀ g H, IsL G g H dd dv
def KwI (G : Ga) (fd : FuncData) (ps : List Str) (n : Nat) (ks : List Str) (ss : List Src) (dd : List D) : Prop := ∃ (dv : List V) (its : List Value), KBn G.K fd ps n ks (fun us ws => pickL ss us its ws) (fun vs zs => pickL ss vs dv zs) ∧ ∀ g H, IsL G g H dd dv
section
variable {X : Cx} {G : Ga} {W : WX} {k j : Nat} {f : Addr} {fd : FuncData} {ps : List Str} {sem : FT} {pos p : Pos} {x : Str} {a : Expr} {es : List Expr}
theorem okCallB (c : XI X G W k) (h : Kn X.prog X.w G X.mg X.base j x ps sem f fd) {dd : List D} (b : Bd G fd ps dd) {m : EM (List D)} (ha : PAI X G W (a :: es) m) (hl : LenIs m (a :: es).length)
    (hj : j ≤ k := by omega) (hlen : (a :: es).length + dd.length = ps.length := by rfl) (hg : Gl X x := by rfl) (hdb : (x == ("__debug__" : Str)) = false := by decide) (he : starEach (a :: es) X.env = (false, eval a X.env) :: starEach es X.env := by rfl) (hpl : (backTo pos (starEach es X.env)).any (·.1) = false := by rfl) :
    PEI X G W (.Call (.Name x p) (a :: es) [] pos) (eCallD sem dd m) := by
  obtain ⟨dvs, dv, b1, b2, b3⟩ := b
  rw [← c.K] at b1
  exact okCall c (n := 0) (h.fn.mono hj) h.m (by rw [c.K]; exact h.kp) b1 b2 b3 ha hlen hl hg hdb he hpl
theorem ok_mul : OpR X (binaryOp .Mult) (rOp2 G fMul) := by
  intro pins s σ H x y v u Q I rx ry ⟨g, M, d1, d2, r, R, v1, v2, e, q⟩
  unfold fMul at e
  split at e
  · split at e
    · rename_i h
      cases e
      cases vw_int v1
      cases vw_int v2
      exact op_mul pins s σ H _ _ v u Q I rx ry ⟨_, _, rfl, rfl, small_cmul h, q _ _ (Grow.refl _) rfl⟩
    · cases e
  · cases e
theorem okYes : PTs X [] (tT G W tYes) := ⟨fun pins s σ H Q I ⟨g, e, M, R, h⟩ => pts_nil.run pins s σ H Q I (h H g (Next.refl _ _) R)⟩
/-- x = e, x kept at once -/
theorem okFrz {st : Stmt} {i : Nat} {m : EM SV} (h : PSI X G W st (sSet i m)) : PSI X G W st (sSetF i m) := by
  refine ⟨fun pins s σ H D I ⟨g, e, M, R, q⟩ => ?_⟩
  have q2 := PostS.bind (σ := σ) q
  have q3 : PostS G W g H D ((m e M).bind fun s e m => .ok .nx (setS e i (.val s.d)) m) := q
  refine wpAny_mono (h.run pins s σ H { nx := fun σ' H' => ∃ (g' : Gs) (e' : PI.Env) (M' : MH) (sv : SV), Next g H g' H' ∧ Rel G g' σ' H' (setS e' i sv) M' ∧ (∀ (σ' : St) (H' : Hp) (g' : Gs), Next g H g' H' → Rel G g' σ' H' (setS e' i (.val sv.d)) M' → D.nx σ' H'), rt := fun _ _ => False } I ⟨g, e, M, R, ?_⟩) (fun fl s' hs => ?_) fun z s' hs => hs
  · show PostS G W g H _ ((m e M).bind fun s e m => .ok .nx (setS e i s) m)
    cases hm : m e M with
    | stuck => rw [hm] at q2; exact q2
    | err x e' M' => rw [hm] at q3; exact q3
    | ok sv e' M' =>
      rw [hm] at q2
      exact fun σ' H' g' N R' => ⟨g', e', M', sv, N, R', q2⟩
  · cases fl with
    | ret u => obtain ⟨_, _, _, _, _, z⟩ := hs; exact False.elim z
    | brk => obtain ⟨_, _, _, z⟩ := hs; exact False.elim z
    | cont => obtain ⟨_, _, _, z⟩ := hs; exact False.elim z
    | next =>
      obtain ⟨σ', H', J, g', e', M', sv, N, R', kk⟩ := hs
      cases sv with
      | val d => exact ⟨σ', H', J, kk σ' H' g' N R'⟩
      | own o =>
        by_cases hi : i < e'.length
        · obtain ⟨a, e1, r, z, mm⟩ := R'.ow i o (by unfold setS; exact List.getElem?_set_self hi)
          have aux : ∀ {j : Nat} {w : SV}, (List.set e' i none)[j]? = some (some w) → (setS e' i (.own o))[j]? = some (some w) ∧ j ≠ i := fun {j w} h1 => by
            by_cases hj : i = j
            · subst hj
              rw [List.getElem?_set_self hi] at h1
              cases h1
            · rw [List.getElem?_set_ne hj] at h1
              exact ⟨by unfold setS; rw [List.getElem?_set_ne hj]; exact h1, fun z => hj z.symm⟩
          have R0 : Rel G g' σ' H' (List.set e' i none) M' :=
            ⟨R'.toHRel, by rw [List.length_set]; have := R'.el; unfold setS at this; rw [List.length_set] at this; exact this, fun j d h1 => R'.sl j d (aux h1).1, fun j w h1 => R'.ow j w (aux h1).1, fun j k b w w' h1 h2 => R'.di j k b w w' (aux h1).1 (aux h2).1⟩
          have sv : SVIs G g' H' σ' (List.set e' i none) (.ref a) (.own o) := ⟨a, rfl, r, z, mm, fun j w h1 h2 => (aux h1).2 (R'.di i j a o w (by unfold setS; exact List.getElem?_set_self hi) (aux h1).1 e1 h2).symm⟩
          obtain ⟨H2, I2, N2, R2, s2⟩ := freeze_own J R0 sv
          have R3 := R2.out e1 s2
          have es : setS (List.set e' i none) i (.val o.snap) = setS e' i (.val o.snap) := by unfold setS; rw [List.set_set]
          rw [es] at R3
          exact ⟨σ', H2, I2, kk σ' H2 g' (N.trans N2) R3⟩
        · have e0 : ∀ s : SV, setS e' i s = e' := fun s => by unfold setS; exact List.set_eq_of_length_le (by omega)
          rw [e0] at R'
          exact ⟨σ', H', J, kk σ' H' g' N (by rw [e0]; exact R')⟩
end
end PI
/-! PISndP: split, defs known to be called in suites. -/
namespace PI
open PySem PySem.Spec PyProof.Rows L2
section
variable {X : Cx} {G : Ga} {W : WX} {k : Nat} {g : Gs} {H : Hp} {pins : List (Addr × Obj)} {σ : St} {s : Shared}
theorem isL_strs {g : Gs} {H : Hp} : ∀ {ss : List (List Nat)}, (ss.all fun p => decide (p.length ≤ 1000000)) = true → IsL G g H (ss.map D.str) ((ss.map fun a => (⟨a.toArray⟩ : Str)).map V.str)
  | [], _ => by simp only [List.map_nil, IsL]
  | a :: ss, h => by
    rw [List.all_cons, Bool.and_eq_true] at h
    simp only [List.map_cons, IsL, Is]
    exact ⟨⟨trivial, by rw [sizeLine_eq]; have := of_decide_eq_true h.1; omega⟩, isL_strs h.2⟩
theorem ok_split : MtR X "str.split" (rM G fSplit) := by
  intro pins s σ H x xs v us Q I rx rs ⟨g, M, d, ds, r, R, vx, vl, e, q⟩
  unfold fSplit at e
  split at e
  · rename_i a b
    split at e
    · rename_i h
      rw [Bool.and_eq_true, Bool.and_eq_true, Bool.and_eq_true] at h
      obtain ⟨⟨h1, h2⟩, h3, h4⟩ := h
      have h3 := of_decide_eq_true h3
      cases e
      obtain ⟨rfl, hl⟩ := vw_str vx
      obtain ⟨v1, rfl, w1⟩ := vwl1 vl
      obtain ⟨rfl, hl2⟩ := vw_str w1
      have hb : b ≠ [] := by
        intro z
        subst z
        cases h1
      refine mt_split pins s σ H _ _ v us Q I rx rs ⟨_, _, rfl, rfl, ?_, ?_, fun p hp => ?_⟩
      · cases b with
        | nil => exact absurd rfl hb
        | cons _ _ => rfl
      · show (⟨a.toArray⟩ : Str).length + 2 ≤ sizeLine
        rw [sizeLine_eq]
        show a.toArray.size + 2 ≤ _
        rw [List.size_toArray]
        omega
      · refine q (.ref p) _ (Grow.upd hp) ⟨p, rfl, hp, _, upd_same, ?_⟩
        rw [show Txt.split ⟨a.toArray⟩ ⟨b.toArray⟩ = (TL.spl b 0 [] a).map fun l => (⟨l.toArray⟩ : Str) from SX.split_S hb h2]
        exact isL_strs h4
    · cases e
  · cases e
end
/-- a def of the text that is called with the handled exception -/
structure KnX (P : Program) (w : World) (G : Ga) (mg : Str → Option Value) (base : Heap) (k : Nat) (x : Str) (pn : Str) (n : Nat) (hw : Xn → Option D) (f : Addr) (fd : FuncData) : Prop where
  m : mg x = some (.ref f)
  kp : PySem.W.keepIn G.K (.ref f) = true
  fn : FnX P w G mg base k f fd pn n hw
  bd : Binds G.K fd [pn] []
theorem FnX.mono {P : Program} {w : World} {G : Ga} {mg : Str → Option Value} {base : Heap} {j k : Nat} {f : Addr} {fd : FuncData} {pn : Str} {n : Nat} {hw : Xn → Option D} (F : FnX P w G mg base j f fd pn n hw) (h : j ≤ k) : FnX P w G mg base k f fd pn n hw :=
  ⟨fun A outer s H args p dX x g d Q E hr => F.run A outer s H args p dX x g d Q E (hr.mono h)⟩
/-- the classes that may be raised, and the class that the clause names -/
structure SubOk (G : Ga) (n : Nat) (CA : Addr) (sub : Nat → Bool) : Prop where
  ok : ∀ j, j < n → PySem.W.exmOne G.K (.ref (G.ca j)) (.ref CA) = some (sub j)
theorem kbindsN {K : PySem.W.Frag} {x qual : Str} {params : Arguments} {body : List Stmt} {scope : Scope} {kws : List (Str × V)} {f : Addr} {fd : FuncData} {ps : List Str} (F : FunD K x qual params body scope [] kws f fd) (n : Nat) (ks : List Str) (g : {α : Type} → List α → List α → List α → List α)
    (hrel : ∀ {vs zs : List V} {us ws : List Value}, Vals vs us → Vals zs ws → Vals (g vs [] zs) (g us [] ws))
    (h : ∀ (kV doc pm : Value) (an : Option Addr) (cdv ct : Value) (us ws : List Value), us.length = n → ws.length = ks.length → bindArgs (PySem.W.fnOf x qual params body scope .none kV doc pm an cdv ct) ⟨us, ks.zip ws⟩ = pure (ps.zip (g us [] ws))) :
    ∃ its : List Value, KBn K fd ps n ks (fun us ws => g us its ws) (fun vs zs => g vs [] zs) := by
  obtain ⟨oc, od, dV, kV, doc, pm, an, cdv, ct, osl, rfl, lk, hcd, hD, hK⟩ := F.ex
  rcases hD with ⟨_, rfl⟩ | ⟨e, _⟩
  · exact ⟨[], ⟨fun s us ws _ l1 l2 => .of_eq (h kV doc pm an cdv ct us ws l1 l2), fun r1 r2 => hrel r1 r2⟩⟩
  · exact absurd rfl e
end PI
/-! PIEndX: a hook with facts of one's own. -/
namespace PI
open PySem PySem.Spec PyProof.Rows L2
structure SaysX (fa : List He.Fa) (fn : List He.DefD) (xs : List (PySem.W.Frag → Bool)) (K : PySem.W.Frag) : Prop where
  d : He.SaysD fa fn K
  x : (xs.all fun b => b K) = true
theorem SaysX.fact {fa : List He.Fa} {fn : List He.DefD} {xs : List (PySem.W.Frag → Bool)} {K : PySem.W.Frag} (c : SaysX fa fn xs K) (i : Nat) {b : PySem.W.Frag → Bool} (h : xs[i]? = some b := by rfl) : b K = true :=
  List.all_eq_true.mp c.x b (List.mem_of_getElem? h)
/-! ### facts of exception classes -/
theorem exccB_ok {K : PySem.W.Frag} {C : Addr} (h : exccB K C = true) : ExcC K C := by
  unfold exccB at h
  simp only [Bool.and_eq_true] at h
  obtain ⟨⟨h1, h2⟩, ⟨h3, h4⟩, ⟨h5, h6⟩, h7, h8⟩ := h
  exact ⟨He.eqO_ok h1, He.eqO_ok h2, of_decide_eq_true h3, h4, He.eqO_ok h5, He.eqO_ok h6, of_decide_eq_true h7, of_decide_eq_true h8⟩
end PI
set_option maxHeartbeats 2000000
/-! PISndQ: times, isinstance of several types, repr of all data, int of a truth. -/
namespace PI
open PySem PySem.Spec PyProof.Rows L2
section
variable {X : Cx} {G : Ga} {W : WX} {k : Nat} {g : Gs} {H : Hp} {M : MH} {pins : List (Addr × Obj)} {σ : St} {s : Shared}
/-- a list as an object -/
theorem lst_exact (hK : X.K = G.K) (I : Inv X pins σ H s) {ds : List D} {v : V} (h : Vw G g H (.lst ds) v) :
    ∃ a vs its n, v = .ref a ∧ Vals vs its ∧ s.heap.get? a = some { cls := .type "list", data := .seq its.toArray n } ∧ vs.length ≤ sizeLine ∧ IsL G g H ds vs := by
  rcases h with h | ⟨a, o, rfl, q, e⟩
  · simp only [Is] at h
    obtain ⟨a, vs, rfl, lf, r⟩ := h
    rcases lf with ⟨o, hf⟩ | ⟨its, n, hk, hl, rv⟩
    · obtain ⟨_, hz, its, n, rv, ho⟩ := (show ObjOk X.prog X.w H s.heap a (.frz o (.lst vs)) from I.hok a _ hf)
      exact ⟨a, vs, its, n, rfl, rv, ho, hz, r⟩
    · rw [← hK] at hk
      exact ⟨a, vs, its, n, rfl, rv, I.kIn a _ hk, by rw [rv.length]; exact hl, r⟩
  · cases o with
    | lst xs =>
      cases e
      obtain ⟨vs, q, r⟩ := q
      obtain ⟨hz, its, n, rv, ho⟩ := (show ObjOk X.prog X.w H s.heap a (.lst vs) from I.hok a _ q)
      exact ⟨a, vs, its, n, rfl, rv, ho, hz, r⟩
    | _ => cases e
theorem tuple_mul1 (l : Addr) (items : Array Value) (n : Nat) (dd : Option Addr) (sl : Array (Option Value)) (u : Tok) (c1 : items.isEmpty = false) :
    Meets (Builtin.«tuple.__mul__» ⟨[.ref l, .int 1 u], []⟩) (fun _ R s => s.heap.get? l = some { cls := .type "tuple", dict := dd, data := .seq items n, slots := sl } ∧ R (.ok (.ret (Value.ref l))) s) :=
  .of_wp fun prog w A R s h => by
    obtain ⟨hp, g, d, tk, os⟩ := s
    obtain ⟨hl, h⟩ := h
    have f1 := AutoSeq1.idx_int
    wp_walk using wpAny_loadPart' hl
    exact ⟨_, rfl, h⟩
theorem ok_mulX (hK : X.K = G.K) : OpR X (binaryOp .Mult) (rOp2 G fMulX) := by
  intro pins s σ H x y v u Q I rx ry ⟨g, M, d1, d2, r, R, v1, v2, e, q⟩
  unfold fMulX at e
  split at e
  · rename_i xs k
    split at e
    · rename_i hh
      obtain ⟨h1, h2, hz0⟩ := hh
      cases e
      obtain ⟨l, vs, its, n, rfl, r1, ho, hzz, ri⟩ := lst_exact hK I v1
      cases vw_int v2
      cases rx
      obtain ⟨t, rfl⟩ := ry
      have hz : its.length * k.toNat ≤ sizeLine := by
        rw [← r1.length, ← ri.length, sizeLine_eq]
        omega
      have hlen : its.toArray.size * k.toNat ≤ sizeLine := by rw [List.size_toArray]; exact hz
      have hcap : ¬ its.toArray.size * k.toNat > (2 ^ 63 - 1) / 8 := by
        have : (sizeLine : Nat) ≤ (2 ^ 63 - 1) / 8 := by decide
        omega
      have hfit : ¬ (!Builtin.List.listFitsIndex k) = true := by
        rw [fitsIndex_both h1 h2]
        exact Bool.false_ne_true
      have hlong : ¬ Builtin.List.listTooLong (its.toArray.size * k.toNat) = true := by
        rw [notLongL hlen]
        exact Bool.false_ne_true
      have hnew : List.foldl (fun x1 x2 => x1 ++ x2) #[] (List.replicate (if its.toArray.isEmpty = true then 0 else k.toNat) its.toArray) = (List.replicate k.toNat its).flatten.toArray := by
        have f0 : ∀ m : Nat, List.foldl (fun x1 x2 => x1 ++ x2) #[] (List.replicate m its.toArray) = (List.replicate m its).flatten.toArray := fun m => by
          have := foldl_rep its m []
          rw [List.nil_append] at this
          exact this
        rw [f0]
        cases its with
        | nil => simp
        | cons a r' => rw [if_neg (by simp)]
      refine wpAny_binaryOp_repeat_ref (T := "list") (U := "int") (by decide) ⟨_, ho, rfl⟩ (fun s' => typeIs_int s' k t) noFill_list_mul F.fills_int_mul F.slot_int_rmul repeat_list F.slot_int_index.lookup
        (call_meets F.slot_int_rmul (typeIs_int s k t) F.entry_int_rmul (F.args_int_rmul_2 _ _) (int___rmul___int_list k t l its.toArray n)
          ⟨ho, rfl, ⟨_, ho, rfl⟩, call_meets F.slot_list_mul ⟨_, ho, rfl⟩ F.entry_list_mul (F.args_list_mul_2 _ _) (AutoListH.list___mul___list_int_3 l its.toArray n k t hfit hcap hlong) ⟨ho, ?_⟩⟩)
      rw [hnew]
      obtain ⟨H', I', w, f, h'⟩ := Inv.newLst I (r1.rep k.toNat) (by rw [PyProof.Rows.lm_len_rep_flat, Nat.mul_comm, r1.length]; exact hz)
      exact ⟨.ref _, H', I', rfl, q _ H' w ⟨_, rfl, f, _, h', R.gn w (isL_rep ri)⟩⟩
    · cases e
  · rename_i xs k
    split at e
    · rename_i hh
      obtain ⟨hne, h1, h2, hz⟩ := hh
      cases e
      obtain ⟨l, vs, rfl, q1, ri⟩ := vw_tup v1
      cases vw_int v2
      cases rx
      obtain ⟨t, rfl⟩ := ry
      have hT := q1.t
      rw [← hK] at hT
      obtain ⟨its, r, ⟨⟨cls, dd, data, sl⟩, ho, hc, n, hd⟩, hs⟩ := I.tuple hT
      simp only at hc hd
      subst hc hd
      have hle : its.length = xs.length := by rw [← r.length, ri.length]
      have hn : its ≠ [] := fun e => hne (by
        rw [e] at hle
        exact List.eq_nil_of_length_eq_zero hle.symm)
      have hi : its.toArray.isEmpty = false := by
        cases its with
        | nil => exact absurd rfl hn
        | cons a b => rfl
      by_cases hk1 : k = 1
      · subst hk1
        refine wpAny_binaryOp_repeat_ref (T := "tuple") (U := "int") (by decide) ⟨_, ho, rfl⟩ (fun s' => typeIs_int s' 1 t) noFill_tuple_mul F.fills_int_mul F.slot_int_rmul repeat_tuple F.slot_int_index.lookup
          (call_meets F.slot_int_rmul (typeIs_int s 1 t) F.entry_int_rmul (F.args_int_rmul_2 _ _) (int_rmul_tuple 1 t l its.toArray n dd sl)
            ⟨ho, rfl, ⟨_, ho, rfl⟩, call_meets F.slot_tuple_mul ⟨_, ho, rfl⟩ F.entry_tuple_mul (F.args_tuple_mul_2 _ _) (tuple_mul1 l its.toArray n dd sl t hi) ⟨ho, ?_⟩⟩)
        refine ⟨.ref l, H, I, rfl, q _ H (Grow.refl _) ?_⟩
        show Is G g H (.tup _) _
        simp only [Is]
        refine ⟨l, vs, rfl, q1, ?_⟩
        simpa using ri
      · have hsz0 : its.toArray.size = xs.length := by rw [List.size_toArray, hle]
        have hm : ((its.toArray.size : Nat) : Int) * k ≤ 1000000 := by
          rw [hsz0]
          have a1 : ((xs.length : Nat) : Int) * k ≤ 1000 * k := Int.mul_le_mul_of_nonneg_right (by omega) (by omega)
          omega
        have flen : (List.replicate k.toNat its).flatten.length ≤ sizeLine := by
          rw [PyProof.Rows.lm_len_rep_flat, hle, sizeLine_eq]
          have a1 : k.toNat * xs.length ≤ 1000 * 1000 := Nat.mul_le_mul (by omega) hz
          omega
        have c0 : (decide (k < -(2 ^ 63)) || decide (k ≥ 2 ^ 63)) = false := by
          rw [decide_eq_false (by omega), decide_eq_false (by omega)] <;> rfl
        have c1 : (its.toArray.isEmpty || k == 1) = false := by
          rw [hi, Bool.false_or]
          exact beq_eq_false_iff_ne.mpr (by omega)
        have c2 : (decide (k ≤ 0) || its.toArray.isEmpty) = false := by
          rw [hi, Bool.or_false]
          exact decide_eq_false (by omega)
        have c4 : Builtin.Tuple.tupleTooMany (((its.toArray.size : Nat) : Int) * k) = false := by
          unfold Builtin.Tuple.tupleTooMany
          rw [sizeLine_eq]
          exact decide_eq_false (by omega)
        refine wpAny_binaryOp_repeat_ref (T := "tuple") (U := "int") (by decide) ⟨_, ho, rfl⟩ (fun s' => typeIs_int s' k t) noFill_tuple_mul F.fills_int_mul F.slot_int_rmul repeat_tuple F.slot_int_index.lookup
          (call_meets F.slot_int_rmul (typeIs_int s k t) F.entry_int_rmul (F.args_int_rmul_2 _ _) (int_rmul_tuple k t l its.toArray n dd sl)
            ⟨ho, rfl, ⟨_, ho, rfl⟩, call_meets F.slot_tuple_mul ⟨_, ho, rfl⟩ F.entry_tuple_mul (F.args_tuple_mul_2 _ _) (tuple_mulW l its.toArray n dd sl k t c0 c1 c2 (by omega) c4 (by rw [size_rep, List.size_toArray]; exact flen)) ⟨ho, ?_⟩⟩)
        rw [size_rep]
        obtain ⟨H', I', w, f⟩ := Inv.newTup I (r.rep k.toNat) (by rw [PyProof.Rows.lm_len_rep_flat, ← ri.length, sizeLine_eq]; have a1 : k.toNat * xs.length ≤ 1000 * 1000 := Nat.mul_le_mul (by omega) hz; omega)
        refine ⟨.ref _, H', I', rfl, q _ H' w ?_⟩
        show Is G g H' (.tup _) _
        simp only [Is]
        exact ⟨_, _, rfl, f _, R.gn w (isL_rep ri)⟩
    · cases e
  · exact ok_mul pins s σ H x y v u Q I rx ry ⟨g, M, d1, d2, r, R, v1, v2, e, q⟩
/-! isinstance(x, (T, ..)) -/
/-! repr of any data -/
/-- what stands at the first place: a dict -/
def SmOk (K : PySem.W.Frag) : Prop := ∃ o, K.lookup sysModules = some o ∧ o.cls = .type "dict"
end
end PI
set_option maxHeartbeats 2000000
/-! PISndR: list(range(n)), calls of values, tables, pairs of names. -/
namespace PI
open PySem PySem.Spec PyProof.Rows L2
section
variable {X : Cx} {G : Ga} {W : WX} {k : Nat} {g : Gs} {H : Hp} {M : MH} {pins : List (Addr × Obj)} {σ : St} {s : Shared} {pos : Pos}
/-! calls of values -/
/-- a def that is called by its value -/
def KnV (P : Program) (w : World) (G : Ga) (mg : Str → Option Value) (base : Heap) (k n : Nat) (i : Nat) (F : FT) : Prop :=
  ∃ (fd : FuncData) (ps : List Str), PySem.W.keepIn G.K (.ref (G.fa i)) = true ∧ FnI P w G mg base k (G.fa i) fd ps F ∧ Bd G fd ps [] ∧ ps.length = n
theorem KnV.mono {P : Program} {w : World} {mg : Str → Option Value} {base : Heap} {j k n i : Nat} {F : FT} (h : KnV P w G mg base j n i F) (l : j ≤ k) : KnV P w G mg base k n i F := by
  obtain ⟨fd, ps, h1, h2, h3⟩ := h
  exact ⟨fd, ps, h1, h2.mono l, h3⟩
/-! tables -/
theorem vw_cls {c : Nat} {v : V} (h : Vw G g H (.cls c) v) : v = .ref (G.ca c) := by
  rcases h with h | ⟨a, o, rfl, q, e⟩
  · exact h
  · cases o <;> cases e
end
end PI
set_option maxHeartbeats 2000000
/-! PISndS: pairs of names, dicts of one pair. -/
namespace PI
open PySem PySem.Spec PyProof.Rows L2
section
variable {X : Cx} {G : Ga} {W : WX} {k : Nat} {g : Gs} {H : Hp} {M : MH} {pins : List (Addr × Obj)} {σ : St} {s : Shared} {pos : Pos}
/-- x, y, z = a, b, c -/
theorem okPar3 (c : XI X G W k) {x y z : Str} {a b d : Expr} {m : EM (List D)} {px py pz pt pt2 : Pos} {kt k2 : Nat} (i j l : Nat) (ha : PAI X G W [a, b, d] m) (hln : LenIs m 3) (hij : i ≠ j := by decide) (hil : i ≠ l := by decide) (hjl : j ≠ l := by decide) (hi : X.N[i]? = some x := by rfl) (hj : X.N[j]? = some y := by rfl) (hl : X.N[l]? = some z := by rfl)
    (hx : X.env.scope.names.lookup x = some .local := by rfl) (hy : X.env.scope.names.lookup y = some .local := by rfl) (hz : X.env.scope.names.lookup z = some .local := by rfl)
    (hw : swappedStores [.Tuple [.Name x px, .Name y py, .Name z pz] kt pt] (.Tuple [a, b, d] k2 pt2) X.env = pure (some [x, y, z]) := by rfl)
    (hs : swapsWithSole [.Tuple [.Name x px, .Name y py, .Name z pz] kt pt] (.Tuple [a, b, d] k2 pt2) pos.line X.env = pure false := by rfl) :
    PSI X G W (.Assign [.Tuple [.Name x px, .Name y py, .Name z pz] kt pt] (.Tuple [a, b, d] k2 pt2) pos) (sAsg (gTup [gNm i, gNm j, gNm l]) (eTup m)) := by
  refine ⟨fun pins s σ H Ds I ⟨g, e, M, R, h⟩ => ?_⟩
  refine (ps_par3 c.calm c.nd hi hj hl hij hil hjl hx hy hz ha hw hs).run pins s σ H Ds I ⟨g, e, M, R, ?_⟩
  have h1 := PostS.bind (σ := σ) h
  have h2 : PostR G W g H σ (m e M) fun ds e' M' => PostS G W g H Ds (EM.bind (TG.em (gTup [gNm i, gNm j, gNm l]) (.tup ds)) (fun _ => EM.pure .nx) e' M') := by
    unfold eTup at h1
    simp only [bind_ap] at h1
    cases hm : m e M with
    | ok ds e1 M1 =>
      rw [hm] at h1
      simp only [bind_ok] at h1
      by_cases hz : ds.length ≤ 1000
      · rw [if_pos hz] at h1
        exact h1
      · rw [if_neg hz] at h1
        exact False.elim h1
    | err z e1 M1 => rw [hm] at h1; exact h1
    | stuck => rw [hm] at h1; exact h1
  refine h2.mono fun ds e1 M1 eq k1 vs H1 g1 N1 R1 r => ?_
  have l2 := hln _ _ _ _ _ eq
  match ds, l2, k1, r with
  | [d1, d2, d3], _, k1, r =>
    match vs, r with
    | [v1, v2, v3], r =>
      simp only [IsL] at r
      obtain ⟨r1, r2, r3, _⟩ := r
      refine ⟨v1, v2, v3, rfl, ?_⟩
      have b1 : i < σ.length := idx_lt I hi
      have b2 : j < σ.length := idx_lt I hj
      have b3 : l < σ.length := idx_lt I hl
      have R2 := ((R1.put (s := .val d1) b1 r1).put (i := j) (s := .val d2) (by rw [List.length_set]; exact b2) r2).put (i := l) (s := .val d3) (by rw [List.length_set, List.length_set]; exact b3) r3
      exact k1 _ H1 g1 N1 R2
    | [], r | [_], r | [_, _], r | _ :: _ :: _ :: _ :: _, r => simp [IsL] at r
end
end PI
/-! PIEndY: a hook with tables, facts of one's own; the numbers of defs, classes, tables, fields. -/
namespace PI
open PySem PySem.Spec PyProof.Rows L2
abbrev AlY : Type := He.AlD × Bool × List (Option (List (Option (Str × Int))))
def obsY (fa : List He.Fa) (fn : List He.DefD) (xs : List (PySem.W.Frag → Bool)) (ts : List TabS) (K : PySem.W.Frag) : AlY := (He.obsD fa fn K, xs.all (fun b => b K), ts.map fun t => He.dicW K (He.ga K t.1))
structure SaysY (fa : List He.Fa) (fn : List He.DefD) (xs : List (PySem.W.Frag → Bool)) (ts : List TabS) (w : World) (K : PySem.W.Frag) : Prop where
  d : He.SaysD fa fn K
  x : (xs.all fun b => b K) = true
  t : (ts.map fun t => He.dicW K (He.ga K t.1)) = ts.map fun t => some (He.keysIn w.params t.2)
theorem SaysY.of {fa : List He.Fa} {fn : List He.DefD} {xs : List (PySem.W.Frag → Bool)} {ts : List TabS} {w : World} {K : PySem.W.Frag} (e : obsY fa fn xs ts K = (He.valD fn, true, ts.map fun t => some (He.keysIn w.params t.2))) : SaysY fa fn xs ts w K :=
  ⟨congrArg (fun z : AlY => z.1) e, congrArg (fun z : AlY => z.2.1) e, congrArg (fun z : AlY => z.2.2) e⟩
theorem SaysY.fact {fa : List He.Fa} {fn : List He.DefD} {xs : List (PySem.W.Frag → Bool)} {ts : List TabS} {w : World} {K : PySem.W.Frag} (c : SaysY fa fn xs ts w K) (i : Nat) {b : PySem.W.Frag → Bool} (h : xs[i]? = some b := by rfl) : b K = true :=
  List.all_eq_true.mp c.x b (List.mem_of_getElem? h)
def valY (fn : List He.DefD) (ts : List TabS) (w : World) : AlY := (He.valD fn, true, ts.map fun t => some (He.keysIn w.params t.2))
instance {cs fs ts ds : List Str} {K : PySem.W.Frag} : PgT (gaY cs fs ts ds K) := ⟨rfl⟩
/-! exceptions -/
/-! the first place -/
theorem smB_ok {K : PySem.W.Frag} (h : smB K = true) : SmOk K := by
  unfold smB at h
  cases q : K.lookup sysModules with
  | none => rw [q] at h; cases h
  | some o => rw [q] at h; exact ⟨o, q, of_decide_eq_true h⟩
/-! tables -/
theorem vOf_is {G : Ga} {g : Gs} {H : Hp} {d : D} (h : d.plainV = true) : Is G g H d (vOf G d) := by
  cases d with
  | str cs => exact ⟨rfl, by rw [sizeLine_eq]; have := of_decide_eq_true h; omega⟩
  | _ => first | rfl | exact absurd h Bool.false_ne_true
/-! a tuple of the module -/
theorem isL_vOf {G : Ga} {g : Gs} {H : Hp} : ∀ {ds : List D}, ds.all D.plainV = true → IsL G g H ds (ds.map (vOf G))
  | [], _ => by simp only [List.map_nil, IsL]
  | d :: ds, h => by
    rw [List.all_cons, Bool.and_eq_true] at h
    simp only [List.map_cons, IsL]
    exact ⟨vOf_is h.1, isL_vOf h.2⟩
theorem tupC_ok {G : PySem.W.Frag → Ga} {K : PySem.W.Frag} {x : Str} {ds : List D} (hG : (G K).K = K) (h : tupC G x ds K = true) : ∀ g H, Is (G K) g H (.tup ds) (.ref (He.ga K x)) := by
  intro g H
  obtain ⟨h0, h⟩ := Bool.and_eq_true_iff.mp h
  simp only [Is]
  refine ⟨_, ds.map (vOf (G K)), rfl, .inr ?_, isL_vOf h0⟩
  rw [hG]
  cases q : K.lookup (He.ga K x) with
  | none => rw [q] at h; cases h
  | some o =>
    obtain ⟨oc, od, dt, osl⟩ := o
    rw [q] at h
    cases oc with
    | type c =>
      cases od with
      | none =>
        cases dt with
        | seq its n =>
          obtain ⟨h1, h2⟩ := Bool.and_eq_true_iff.mp h
          obtain ⟨h3, h4⟩ := Bool.and_eq_true_iff.mp h2
          exact ⟨_, its, n, rfl, congrArg Value.type (of_decide_eq_true h1), rfl, rfl, of_decide_eq_true h3, He.relAll_ok h4⟩
        | _ => cases h
      | some _ => cases dt <;> cases h
    | _ => cases od <;> cases dt <;> cases h
end PI
/-! PISndU: making instances, calling their methods. -/
namespace PI
open PySem PySem.Spec PyProof.Rows L2
theorem Grow.trans {H H1 H2 : Hp} (a : Grow H H1) (b : Grow H1 H2) : Grow H H2 := fun x o h => b x o (a x o h)
/-- something that is called: what it gives -/
def CalX (X : Cx) (G : Ga) (W : WX) (f : Addr) (n : Nat) (sem : FT) (B : Shared → Args → List Value → Prop) : Prop :=
  ∀ {pins : List (Addr × Obj)} {σ : St} {H : Hp} {s : Shared} {Q : VK} {args : Args} {us : List Value} {vs : List V}, Inv X pins σ H s → B s args us → Vals vs us → SpI G n sem vs H Q (fun cls d H' => W cls d σ H') →
    wpAny (model X.prog X.w) X.A (call (.ref f) args.pos args.kw) (EP X pins σ Q) X.xe s
section
variable {X : Cx} {G : Ga} {W : WX} {k : Nat} {f : Addr} {fd : FuncData} {ps : List Str} {sem : FT}
theorem calF (F : FnI X.prog X.w G X.mg X.base k f fd ps sem) (c : XI X G W k) : CalX X G W f ps.length sem (fun s args us => BindsTo s fd args (ps.zip us)) := fun {pins σ H s Q args us vs} I hb r h => by
  refine wpAny_call (codeAny_mono (run_fnI F c I hb r h (ff := fun v _ _ => Sem.pure v)) fun r s' hq => ?_)
  cases r with
  | error e => exact hq
  | ok fl => cases fl <;> exact hq
end
end PI
set_option maxHeartbeats 1000000
/-! PISndV: calls of classes and methods; fields; isinstance with own classes. -/
namespace PI
open PySem PySem.Spec PyProof.Rows L2
section
variable {X : Cx} {G : Ga} {W : WX} {k : Nat} {f : Addr} {fd : FuncData} {ps : List Str} {sem : FT} {n : Nat} {B : Shared → Args → List Value → Prop} {pos p apos : Pos} {x : Str} {a o : Expr} {es : List Expr} {g : Gs} {H : Hp}
/-- the wish behind a call's arguments -/
def PostC (G : Ga) (W : WX) (g : Gs) (H : Hp) (σ : St) (Q : VK) (r : Res SV) : Prop := PostR G W g H σ r fun s e' M' => ∀ (v : V) (H' : Hp) (g' : Gs), Next g H g' H' → Rel G g' σ H' e' M' → SVIs G g' H' σ e' v s → Q v H'
theorem PostC.from {g' : Gs} {H' : Hp} {σ : St} {Q : VK} {r : Res SV} (N : Next g H g' H') (h : PostC G W g H σ Q r) : PostC G W g' H' σ Q r :=
  (PostR.from N h).mono fun s e' M' _ kk v H2 g2 N2 => kk v H2 g2 (N.trans N2)
theorem okCallX (c : XI X G W k) (C : CalX X G W f n sem B) (hm : X.mg x = some (.ref f)) (hk : PySem.W.keepIn X.K (.ref f) = true) {dd : List D} {dv : List V} {dvs : List Value}
    (hb : ∀ (s : Shared) (us : List Value), X.K.In s.heap → (us ++ dvs).length = n → B s ⟨us, []⟩ (us ++ dvs)) (hd : Vals dv dvs) (hdI : ∀ g H, IsL G g H dd dv) {m : EM (List D)} (ha : PAI X G W (a :: es) m) (hl : LenIs m (a :: es).length)
    (hlen : (a :: es).length + dd.length = n) (hg : Gl X x) (hdb : (x == ("__debug__" : Str)) = false) (he : starEach (a :: es) X.env = (false, eval a X.env) :: starEach es X.env) (hpl : (backTo pos (starEach es X.env)).any (·.1) = false) :
    PEI X G W (.Call (.Name x p) (a :: es) [] pos) (eCallD sem dd m) := by
  refine ⟨fun pins s σ H Q I ⟨g, e, M, R, h⟩ => ?_⟩
  refine wpAny_Call_Name_kw (ld_glob I hg hm ?_ hdb)
  refine PySem.W.callWith_K (h₀ := X.base) I.ok.mod.kin hk (thn (ha.run pos pins s σ H (fun vs H1 => ∃ g1 e1 M1 ds, IsL G g1 H1 ds vs ∧ ds.length + dd.length = n ∧ Rel G g1 σ H1 e1 M1 ∧ PostC G W g1 H1 σ Q ((sem (ds ++ dd) M1).to e1)) I
    ⟨g, e, M, R, (PostR.bind h).mono fun ds e1 M1 eq k1 vs H1 g1 N1 R1 r => ⟨g1, e1, M1, ds, r, by rw [hl _ _ _ _ _ eq]; exact hlen, R1, PostC.from N1 k1⟩⟩) fun us s1 ⟨vs, H1, I1, r, g1, e1, M1, ds, q, hl, R1, k1⟩ => ⟨I1.kIn, ?_⟩) he hpl
  have r2 : Vals (vs ++ dv) (us ++ dvs) := r.append hd
  have q2 : IsL G g1 H1 (ds ++ dd) (vs ++ dv) := IsL.append q (hdI g1 H1)
  have hu : (us ++ dvs).length = n := by rw [isL_len q2 r2, List.length_append]; exact hl
  exact C (args := ⟨us, []⟩) I1 (hb s1 us I1.kIn hu) r2 (spI_of R1 (by rw [List.length_append]; exact hl) q2 k1)
theorem okCallX0 (c : XI X G W k) (C : CalX X G W f n sem B) (hm : X.mg x = some (.ref f)) (hk : PySem.W.keepIn X.K (.ref f) = true) {dd : List D} {dv : List V} {dvs : List Value}
    (hb : ∀ (s : Shared) (us : List Value), X.K.In s.heap → (us ++ dvs).length = n → B s ⟨us, []⟩ (us ++ dvs)) (hd : Vals dv dvs) (hdI : ∀ g H, IsL G g H dd dv)
    (hlen : dd.length = n) (hg : Gl X x) (hdb : (x == ("__debug__" : Str)) = false) :
    PEI X G W (.Call (.Name x p) [] [] pos) (eCallD sem dd eNil) := by
  refine ⟨fun pins s σ H Q I ⟨g, e, M, R, h⟩ => ?_⟩
  refine wpAny_Call_Name_kw (ld_glob I hg hm ?_ hdb)
  refine PySem.W.callWith_K0 I.kIn hk ?_
  have hu : dvs.length = n := by rw [← hd.length, ← IsL.length (hdI g H)]; exact hlen
  exact C (args := ⟨[], []⟩) I (hb s [] I.kIn hu) hd (spI_of R hlen (hdI g H) (show PostC G W g H σ Q ((sem dd M).to e) from h))
theorem okCallKX (c : XI X G W k) (C : CalX X G W f n sem B) (hm : X.mg x = some (.ref f)) (hk : PySem.W.keepIn X.K (.ref f) = true) {np : Nat} {dd : List D} {ks : List Str} {ss : List Src} {dv : List V} {its : List Value}
    (hb : ∀ (s : Shared) (us ws : List Value), X.K.In s.heap → us.length = np → ws.length = ks.length → B s ⟨us, ks.zip ws⟩ (pickL ss us its ws)) (hd : ∀ {vs : List V} {us : List Value} {zs : List V} {ws : List Value}, Vals vs us → Vals zs ws → Vals (pickL ss vs dv zs) (pickL ss us its ws)) (hdI : ∀ g H, IsL G g H dd dv)
    {m mk : EM (List D)} {kws : List Keyword} (ha : PAI X G W (a :: es) m) (hkw : PKI X G W kws mk)
    (hln : LenIs m np) (hlk : LenIs mk ks.length) (hlen : ∀ (ds zs : List D), ds.length = np → zs.length = ks.length → (pickL ss ds dd zs).length = n)
    (hall : (backToKw pos (keywordEach kws X.env)).all (·.1.isSome) = true) (hks : (backToKw pos (keywordEach kws X.env)).filterMap (·.1) = ks)
    (hg : Gl X x) (hdb : (x == ("__debug__" : Str)) = false) (he : starEach (a :: es) X.env = (false, eval a X.env) :: starEach es X.env)
    (hpl : ((backTo pos (starEach (a :: es) X.env)).any (·.1) || (backToKw pos (keywordEach kws X.env)).any (·.1.isNone)) = false) :
    PEI X G W (.Call (.Name x p) (a :: es) kws pos) (eCallK sem ss dd m mk) := by
  refine ⟨fun pins s σ H Q I ⟨g, e, M, R, h⟩ => ?_⟩
  refine wpAny_Call_Name_kw (ld_glob I hg hm ?_ hdb)
  refine PySem.W.callWith_KW (h₀ := X.base) I.ok.mod.kin hk hall (thn (ha.run pos pins s σ H (fun vs H1 => ∃ g1 e1 M1 ds, IsL G g1 H1 ds vs ∧ ds.length = np ∧ Rel G g1 σ H1 e1 M1 ∧ PostC G W g1 H1 σ Q (EM.bind mk (fun zs e m => (sem (pickL ss ds dd zs) m).to e) e1 M1)) I
    ⟨g, e, M, R, (PostR.bind h).mono fun ds e1 M1 eq k1 vs H1 g1 N1 R1 r => ⟨g1, e1, M1, ds, r, hln _ _ _ _ _ eq, R1, PostC.from N1 k1⟩⟩) fun us s1 ⟨vs, H1, I1, r, g1, e1, M1, ds, q, hl, R1, k1⟩ => ?_) hpl he
  refine thn (hkw.run pos pins s1 σ H1 (fun zs H2 => ∃ g2 e2 M2 dz, IsL G g2 H2 dz zs ∧ dz.length = ks.length ∧ Next g1 H1 g2 H2 ∧ Rel G g2 σ H2 e2 M2 ∧ PostC G W g2 H2 σ Q ((sem (pickL ss ds dd dz) M2).to e2)) I1
    ⟨g1, e1, M1, R1, (PostR.bind k1).mono fun dz e2 M2 eq k2 zs H2 g2 N2 R2 r2 => ⟨g2, e2, M2, dz, r2, hlk _ _ _ _ _ eq, N2, R2, PostC.from N2 k2⟩⟩) fun ws s2 ⟨zs, H2, I2, rz, g2, e2, M2, dz, q2, hl2, N2, R2, k2⟩ => ⟨I2.kIn, ?_⟩
  rw [hks]
  have qa := q.next N2
  exact C (args := ⟨us, ks.zip ws⟩) I2 (hb s2 us ws I2.kIn (by rw [isL_len qa r]; exact hl) (by rw [isL_len q2 rz]; exact hl2)) (hd r rz) (spI_of R2 (hlen ds dz hl hl2) (isL_pick qa (hdI g2 H2) q2) k2)
theorem okCallKX0 (c : XI X G W k) (C : CalX X G W f n sem B) (hm : X.mg x = some (.ref f)) (hk : PySem.W.keepIn X.K (.ref f) = true) {dd : List D} {ks : List Str} {ss : List Src} {dv : List V} {its : List Value}
    (hb : ∀ (s : Shared) (us ws : List Value), X.K.In s.heap → us.length = 0 → ws.length = ks.length → B s ⟨us, ks.zip ws⟩ (pickL ss us its ws)) (hd : ∀ {vs : List V} {us : List Value} {zs : List V} {ws : List Value}, Vals vs us → Vals zs ws → Vals (pickL ss vs dv zs) (pickL ss us its ws)) (hdI : ∀ g H, IsL G g H dd dv)
    {mk : EM (List D)} {kws : List Keyword} (hkw : PKI X G W kws mk)
    (hlk : LenIs mk ks.length) (hlen : ∀ (ds zs : List D), ds.length = 0 → zs.length = ks.length → (pickL ss ds dd zs).length = n)
    (hall : (backToKw pos (keywordEach kws X.env)).all (·.1.isSome) = true) (hks : (backToKw pos (keywordEach kws X.env)).filterMap (·.1) = ks)
    (hg : Gl X x) (hdb : (x == ("__debug__" : Str)) = false)
    (hpl : ((backTo pos (starEach [] X.env)).any (·.1) || (backToKw pos (keywordEach kws X.env)).any (·.1.isNone)) = false) :
    PEI X G W (.Call (.Name x p) [] kws pos) (eCallK sem ss dd eNil mk) := by
  refine ⟨fun pins s σ H Q I ⟨g, e, M, R, h⟩ => ?_⟩
  refine wpAny_Call_Name_kw (ld_glob I hg hm ?_ hdb)
  have k1 : PostC G W g H σ Q (EM.bind mk (fun zs e m => (sem (pickL ss [] dd zs) m).to e) e M) := h
  refine PySem.W.callWith_KW0 (h₀ := X.base) I.ok.mod.kin hk hall ?_ hpl
  refine thn (hkw.run pos pins s σ H (fun zs H2 => ∃ g2 e2 M2 dz, IsL G g2 H2 dz zs ∧ dz.length = ks.length ∧ Rel G g2 σ H2 e2 M2 ∧ PostC G W g2 H2 σ Q ((sem (pickL ss [] dd dz) M2).to e2)) I
    ⟨g, e, M, R, (PostR.bind k1).mono fun dz e2 M2 eq k2 zs H2 g2 N2 R2 r2 => ⟨g2, e2, M2, dz, r2, hlk _ _ _ _ _ eq, R2, PostC.from N2 k2⟩⟩) fun ws s2 ⟨zs, H2, I2, rz, g2, e2, M2, dz, q2, hl2, R2, k2⟩ => ⟨I2.kIn, ?_⟩
  rw [hks]
  exact C (args := ⟨[], ks.zip ws⟩) I2 (hb s2 [] ws I2.kIn rfl (by rw [isL_len q2 rz]; exact hl2)) (hd .nil rz) (spI_of R2 (hlen [] dz rfl hl2) (isL_pick (by simp only [IsL]) (hdI g2 H2) q2) k2)
end
/-! ### classes by name -/
/-- a class of the text whose instances are made by the def f -/
structure KnC (P : Program) (w : World) (G : Ga) (mg : Str → Option Value) (base : Heap) (k : Nat) (ci : Nat) (x : Str) (ps : List Str) (sem : FT) (f : Addr) (fd : FuncData) : Prop where
  m : mg x = some (.ref (G.ca ci))
  mkr : Mk G.K (G.ca ci) f
  fn : FnI P w G mg base k f fd ps sem
theorem KnC.mono {P : Program} {w : World} {G : Ga} {mg : Str → Option Value} {base : Heap} {j k ci : Nat} {x : Str} {ps : List Str} {sem : FT} {f : Addr} {fd : FuncData} (h : KnC P w G mg base j ci x ps sem f fd) (l : j ≤ k) : KnC P w G mg base k ci x ps sem f fd := ⟨h.m, h.mkr, h.fn.mono l⟩
/-- what a call's sources are for the def behind it, an argument ahead -/
def upSrc : Src → Src
  | .p j => .p (j + 1)
  | .d j => .d j
  | .k j => .k j
def upS (ss : List Src) : List Src := .p 0 :: ss.map upSrc
theorem pickL_up {α : Type} (ss : List Src) (x : α) (us its ws : List α) : pickL (upS ss) (x :: us) its ws = x :: pickL ss us its ws := by
  unfold upS pickL
  rw [List.filterMap_cons, List.filterMap_map]
  show x :: _ = x :: _
  congr 2
  funext s
  cases s <;> rfl
section
variable {X : Cx} {G : Ga} {W : WX} {k j ci : Nat} {f : Addr} {fd : FuncData} {ps : List Str} {sem : FT} {pos p : Pos} {x : Str} {a : Expr} {es : List Expr} {mk : Nat → FT → FT}
theorem vals_tail {v : V} {u : Value} {vs : List V} {us : List Value} (h : Vals (v :: vs) (u :: us)) : Vals vs us := by
  cases h with
  | cons _ t => exact t
end
/-! ### fields -/
section
variable {X : Cx} {G : Ga} {W : WX} {k ci : Nat} {g : Gs} {H : Hp} {pins : List (Addr × Obj)} {σ : St} {s : Shared} {pos pos' : Pos} {o e : Expr}
theorem vw_ins {c : Nat} {fs : List (Nat × D)} {v : V} (h : Vw G g H (.ins c fs) v) : ∃ a dx vfs, v = .ref a ∧ Rd H a (.ins (G.ca c) dx vfs) ∧ IsFl G g H fs vfs := by
  rcases h with h | ⟨a, o, rfl, q, e⟩
  · simp only [Is] at h
    obtain ⟨a, dx, vfs, o, rfl, q, r⟩ := h
    exact ⟨a, dx, vfs, rfl, .inr ⟨o, q⟩, r⟩
  · cases o with
    | ins c' fs' =>
      cases e
      obtain ⟨dx, vfs, q, r⟩ := q
      exact ⟨a, dx, vfs, rfl, .inl q, r⟩
    | _ => cases e
theorem rd_ins {P : Program} {w : World} {h : Heap} {a C dx : Addr} {fs : List (Str × V)} (q : Rd H a (.ins C dx fs)) (hok : HOk P w H h) : ∃ mA, ObjM h a dx C mA ∧ ∀ f, RelO (fs.lookup f) (mA f) := by
  obtain ⟨d, z, ne, ob, mA, n, r, _⟩ := q.ok hok
  exact ⟨mA, ⟨ob, n, ne⟩, r⟩
theorem isFl_get {i : Nat} (inj : ∀ j, G.fld j = G.fld i → j = i) {d : D} : ∀ {fs : List (Nat × D)} {vfs : List (Str × V)}, IsFl G g H fs vfs → fs.lookup i = some d → ∃ v, vfs.lookup (G.fld i) = some v ∧ Is G g H d v
  | [], [], _, h => by simp at h
  | (f, d') :: fs, (q, v) :: vfs, h, e => by
    simp only [IsFl] at h
    by_cases hf : i = f
    · subst hf
      have e2 : d' = d := by simpa [List.lookup] using e
      subst e2
      refine ⟨v, ?_, h.2.1⟩
      rw [h.1]
      simp [List.lookup]
    · have h1 : (i == f) = false := beq_eq_false_iff_ne.mpr hf
      have h2 : (G.fld i == q) = false := beq_eq_false_iff_ne.mpr fun z => hf (inj f (by rw [z, h.1])).symm
      simp only [List.lookup, h1] at e
      simp only [List.lookup, h2]
      exact isFl_get inj h.2.2 e
  | [], _ :: _, h, _ => by simp only [IsFl] at h
  | (_, _) :: _, [], h, _ => by simp only [IsFl] at h
theorem isFl_put {i : Nat} (inj : ∀ j, G.fld j = G.fld i → j = i) {d : D} {y : V} (hd : Is G g H d y) : ∀ {fs : List (Nat × D)} {vfs : List (Str × V)}, IsFl G g H fs vfs → IsFl G g H (putFD i d fs) (putF (G.fld i) y vfs)
  | [], [], _ => by
    simp only [putFD, putF, IsFl]
    exact ⟨trivial, hd, trivial⟩
  | (f, d') :: fs, (q, v) :: vfs, h => by
    simp only [IsFl] at h
    obtain ⟨rfl, h1, h2⟩ := h
    by_cases hf : f = i
    · subst hf
      simp only [putFD, putF, if_pos trivial, IsFl]
      exact ⟨trivial, hd, h2⟩
    · have hq : ¬ G.fld f = G.fld i := fun z => hf (inj f z)
      simp only [putFD, putF, if_neg hf, if_neg hq, IsFl]
      exact ⟨trivial, h1, isFl_put inj hd h2⟩
  | [], _ :: _, h => by simp only [IsFl] at h
  | (_, _) :: _, [], h => by simp only [IsFl] at h
theorem isFl_len : ∀ {fs : List (Nat × D)} {vfs : List (Str × V)}, IsFl G g H fs vfs → fs.length = vfs.length
  | [], [], _ => rfl
  | (_, _) :: fs, (_, _) :: vfs, h => by
    simp only [IsFl] at h
    exact congrArg Nat.succ (isFl_len h.2.2)
  | [], _ :: _, h => by simp only [IsFl] at h
  | (_, _) :: _, [], h => by simp only [IsFl] at h
/-- what is known of a field: its class, its name stands once -/
structure FdOk (G : Ga) (ci i : Nat) (f : Str) : Prop where
  cl : Cls G.K (G.ca ci)
  no : NoAttr G.K (G.ca ci) f
  nm : G.fld i = f
  inj : ∀ j, G.fld j = G.fld i → j = i
/-- o.f of an instance that may be locked -/
theorem pe_at {ta : TE} {f : Str} (he : PE X o ta) (hb : attributeBase o f X.env (eval o X.env) = eval o X.env) : PE X (.Attribute o f pos) (fun σ H Q => ta σ H fun x H1 => ∃ a C dx fs v, x = .ref a ∧ Rd H1 a (.ins C dx fs) ∧ Cls X.K C ∧ NoAttr X.K C f ∧ fs.lookup f = some v ∧ Q v H1) := by
  refine ⟨fun pins s σ H Q I h => attr_of hb (thn (he.run pins s σ H _ I h) fun u s1 hh => ?_)⟩
  obtain ⟨x, H1, I1, rx, a, C, dx, fs, v, ex, ea, c, n, l, q⟩ := hh
  subst ex
  cases (show u = Value.ref a from rx)
  obtain ⟨mA, O, r⟩ := rd_ins ea I1.hok
  have rf := r f
  rw [l] at rf
  obtain ⟨u', hu, ru⟩ := rf.some_of
  exact get_map I1.kIn O (c.get f) c.hd n hu (handed_of ru) ⟨v, H1, I1.tok _, ru, q⟩
theorem okFld (c : XJ X G W) {i : Nat} {f : Str} (F : FdOk G ci i f) {m : EM PV} (ho : PPI X G W o m) (hb : attributeBase o f X.env (eval o X.env) = eval o X.env := by rfl) : PEI X G W (.Attribute o f pos) (e1 (fFld ci i) m) :=
  PE.imp (pe_at ho hb) fun σ H Q ⟨g, e, M, R, h⟩ => ⟨g, e, M, R, (PostR.bind h).mono fun p e1 M1 _ k1 x H1 g1 N1 R1 p1 => by
    obtain ⟨d1, k3, q1⟩ := now_ok R1 p1 (PostR.bind (k1.from N1))
    obtain ⟨r, er, k4⟩ := lift_ok k3
    unfold fFld at er
    split at er
    · rename_i c' fs
      split at er
      · rename_i hc
        subst hc
        obtain ⟨d, hd, rfl⟩ := Option.map_eq_some_iff.mp er
        obtain ⟨a, dx, vfs, rfl, q2, q3⟩ := vw_ins q1
        obtain ⟨v, e2, q4⟩ := isFl_get F.inj q3 hd
        rw [F.nm] at e2
        exact ⟨a, _, dx, vfs, v, rfl, q2, by rw [c.K]; exact F.cl, by rw [c.K]; exact F.no, e2, k4 v H1 g1 N1 R1 q4⟩
      · cases er
    · cases er⟩
theorem okFldP (c : XJ X G W) {i : Nat} {f : Str} (F : FdOk G ci i f) {mv : EM D} {mo : EM PV} (hv : PUI X G W e mv) (ho : PPI X G W o mo) (hs : swapsWith e (some (.Attribute o f pos')) pos.line X.env = pure false := by rfl) :
    PSI X G W (.Assign [.Attribute o f pos'] e pos) (sFldP ci i mv mo) :=
  PS.imp (ps_fld ho hv hs) fun D σ H ⟨g, e, M, R, h⟩ => ⟨g, e, M, R, (PostS.bind h).mono fun d e1 M1 _ k1 z H1 g1 N1 R1 iz => ⟨g1, e1, M1, R1, (PostS.bind (k1.from N1)).mono fun p e2 M2 _ k2 x H2 g2 N2 R2 ip => by
    have k4 := PostS.bind (σ := σ) (k2.from N2)
    obtain ⟨a, ob, dd, o', e4, M4, rfl, q1, q2, k5, q3⟩ := chg_ok R2 ip k4
    obtain ⟨o2, q4, q5⟩ := Option.map_eq_some_iff.mp q2
    cases q5
    unfold mFldP at q4
    split at q4
    · rename_i c' fs
      split at q4
      · rename_i hc
        obtain ⟨rfl, hl⟩ := hc
        cases q4
        obtain ⟨dx, vfs, q6, q7⟩ := q1
        have hu : OIs G g2 (upd H2 a (.ins (G.ca c') dx (putF f z vfs))) a (.ins c' (putFD i d fs)) := by
          refine ⟨dx, putF f z vfs, upd_same, ?_⟩
          have ii := isFl_put F.inj (iz.next N2) q7
          rw [F.nm] at ii
          exact ii.nextI ⟨⟨[], by simp⟩, fun b u hb nm => by rw [upd_ne fun eb => nm (by rw [← hb, eb, q6]; trivial)]; exact hb⟩
        obtain ⟨N4, R4⟩ := q3 _ hu
        exact ⟨a, _, dx, vfs, rfl, q6, by rw [c.K]; exact F.cl, by rw [c.K]; exact F.no, by rw [← isFl_len q7]; omega, k5 σ _ g2 N4 R4⟩
      · cases q4
    · cases q4⟩⟩
end
/-! ### methods -/
/-- a method of the class ci -/
structure KnM (P : Program) (w : World) (G : Ga) (mg : Str → Option Value) (base : Heap) (k : Nat) (ci : Nat) (m : Str) (ps : List Str) (sem : FT) (f : Addr) (fd : FuncData) : Prop where
  cl : Cls G.K (G.ca ci)
  me : Meth G.K (G.ca ci) m f
  nf : ∀ i, G.fld i ≠ m
  fn : FnI P w G mg base k f fd ps sem
theorem KnM.mono {P : Program} {w : World} {G : Ga} {mg : Str → Option Value} {base : Heap} {j k ci : Nat} {m : Str} {ps : List Str} {sem : FT} {f : Addr} {fd : FuncData} (h : KnM P w G mg base j ci m ps sem f fd) (l : j ≤ k) : KnM P w G mg base k ci m ps sem f fd := ⟨h.cl, h.me, h.nf, h.fn.mono l⟩
end PI
set_option maxHeartbeats 1000000
/-! PISndW: str of data, text * n, isinstance with own classes, fields of the handled exception. -/
namespace PI
open PySem PySem.Spec PyProof.Rows L2
section
variable {X : Cx} {G : Ga} {W : WX} {k : Nat} {g : Gs} {H : Hp} {pins : List (Addr × Obj)} {σ : St} {s : Shared} {pos : Pos}
theorem cps_rep (cs : List Nat) : ∀ (n : Nat) (acc : List Nat), (List.replicate n cs.toArray).foldl (· ++ ·) acc.toArray = (acc ++ (List.replicate n cs).flatten).toArray
  | 0, acc => by simp
  | n + 1, acc => by
    rw [List.replicate_succ, List.foldl_cons, List.append_toArray, cps_rep cs n, List.replicate_succ, List.flatten_cons, List.append_assoc]
theorem ok_mulS (hK : X.K = G.K) : OpR X (binaryOp .Mult) (rOp2 G fMulS) := by
  intro pins s σ H x y v u Q I rx ry ⟨g, M, d1, d2, r, R, v1, v2, e, q⟩
  unfold fMulS at e
  split at e
  · rename_i cs n
    split at e
    · rename_i hh
      obtain ⟨h1, h2, h3, h4⟩ := hh
      cases e
      obtain ⟨rfl, hl⟩ := vw_str v1
      cases vw_int v2
      obtain ⟨t, rfl⟩ := rx
      obtain ⟨t2, rfl⟩ := ry
      have e1 : decide (n < -(2 ^ 63 : Int)) = false := decide_eq_false (by omega)
      have e2 : decide (n ≥ 2 ^ 63) = false := decide_eq_false (by omega)
      have hlen : (⟨cs.toArray⟩ : Str).length = cs.length := by simp [Str.length]
      have hm : cs.length * n.toNat ≤ 1000000 := by
        have := Nat.mul_le_mul h4 (show n.toNat ≤ 1000 by omega)
        omega
      have hne : (n == 1 || (⟨cs.toArray⟩ : Str).length == 0) = false := by
        rw [hlen]
        have a1 : (n == 1) = false := beq_eq_false_iff_ne.mpr (by omega)
        have a2 : (cs.length == 0) = false := beq_eq_false_iff_ne.mpr fun z => h3 (List.eq_nil_of_length_eq_zero z)
        rw [a1, a2]; rfl
      have hfl : (List.replicate n.toNat cs).flatten.length ≤ 1000000 := by
        have : ∀ n : Nat, (List.replicate n cs).flatten.length = cs.length * n := fun n => by
          induction n with
          | zero => simp
          | succ n ih => rw [List.replicate_succ, List.flatten_cons, List.length_append, ih, Nat.mul_succ, Nat.add_comm]
        rw [this]; exact hm
      refine PySem.P.mul_str (by rw [e1, e2]; rfl) (fun _ _ => ?_) (fun _ _ => ?_) ?_
      · rw [hlen]
        have : (1000 : Int) ≤ (2 ^ 63 - 1) / n := by
          rw [Int.le_ediv_iff_mul_le (by omega)]
          omega
        omega
      · rw [hlen]
        unfold PySem.Builtin.Str.tooLong
        first
          | (simp only [decide_eq_false_iff_not]; rw [show (sizeLine : Nat) = _ from sizeLine_eq]; omega)
          | (rw [decide_eq_false_iff_not]; omega)
          | (simp; omega)
      · rw [if_neg (show ¬ n < 1 by omega), if_neg (by rw [hne]; exact Bool.false_ne_true)]
        have er := cps_rep cs n.toNat []
        rw [List.nil_append] at er
        refine ⟨?_, ⟨.str _, H, I.tok _, ⟨_, rfl⟩, ?_⟩⟩
        · show (Str.mk _).length ≤ sizeLine
          show Array.size _ ≤ sizeLine
          have : (List.replicate n.toNat cs.toArray).foldl (· ++ ·) #[] = (List.replicate n.toNat cs).flatten.toArray := er
          rw [this, List.size_toArray, sizeLine_eq]
          omega
        · have : (List.replicate n.toNat cs.toArray).foldl (· ++ ·) #[] = (List.replicate n.toNat cs).flatten.toArray := er
          show Q (.str ⟨(List.replicate n.toNat cs.toArray).foldl (· ++ ·) #[]⟩) H
          rw [this]
          exact q _ _ (Grow.refl _) ⟨rfl, by rw [sizeLine_eq]; omega⟩
    · cases e
  · exact ok_mulX hK pins s σ H x y v u Q I rx ry ⟨g, M, d1, d2, r, R, v1, v2, e, q⟩
/-! isinstance with own classes -/
/-- what is known of the classes below n -/
structure IuOk (G : Ga) (lo n : Nat) : Prop where
  cl : ∀ c, lo ≤ c ∧ c < n → Cls G.K (G.ca c) ∧ PySem.W.findIn G.K (.ref (G.ca c)) "__class__" = some (some (.builtin "object.__class__")) ∧ PySem.W.specialIn G.K (.builtin "object.__class__") "__get__" = some (some (.builtin "getset_descriptor.__get__")) ∧
    PySem.W.takesIn G.K (.builtin "object.__class__") = some true ∧ PySem.W.mroIn G.K (G.ca c) (.type "object") = some true
  bi : ∀ c, lo ≤ c ∧ c < n → ∀ T ∈ ["NoneType", "bool", "int", "str", "tuple", "list", "dict"], PySem.W.kitOne G.K (.type T) (.ref (G.ca c)) = some false ∧ (T ≠ "NoneType" → PySem.W.kitOne G.K (.ref (G.ca c)) (.type T) = some false)
  ow : ∀ c d, lo ≤ c ∧ c < n → lo ≤ d ∧ d < n → PySem.W.kitOne G.K (.ref (G.ca c)) (.ref (G.ca d)) = some (c == d)
theorem ins_kit (c : XJ X G W) {lo n ci : Nat} (hI : IuOk G lo n) (hc : lo ≤ ci ∧ ci < n) (I : Inv X pins σ H s) {fs : List (Nat × D)} {v : V} {u : Value} (h : Vw G g H (.ins ci fs) v) (r : RelV v u) :
    ∃ P : Heap → Prop, PySem.W.KitX X.K u (.ref (G.ca ci)) P ∧ P s.heap ∧ u ≠ .builtin "__main__.__loader__#opaque" := by
  obtain ⟨a, dx, vfs, rfl, q2, q3⟩ := vw_ins h
  cases (show u = Value.ref a from r)
  obtain ⟨mA, O, _⟩ := rd_ins q2 I.hok
  obtain ⟨od, J, _⟩ := O.look
  obtain ⟨h1, h2, h3, h4, h5⟩ := hI.cl ci hc
  rw [← c.K] at h1 h2 h3 h4 h5
  exact ⟨_, PySem.W.kitx_own (h1.get _) h1.hd h2 h3 h4 h5, J, fun z => nomatch z⟩
theorem ok_isU (c : XJ X G W) {lo n : Nat} (hI : IuOk G lo n) : CallR X (.builtin "isinstance") (rB G (fIsU lo n)) := by
  intro pins s σ H xs us Q I r ⟨g, M, ds, rr, R, w, e, q⟩
  unfold fIsU at e
  split at e
  · rename_i ci fs kk
    split at e
    · rename_i hc
      cases e
      obtain ⟨v1, v2, rfl, w1, w2⟩ := vwl2 w
      obtain ⟨u1, u2, rfl, r1, r2⟩ := vals2 r
      obtain ⟨P, Z, p, hx⟩ := ins_kit c hI hc.1 I w1 r1
      cases vw_cls w2
      cases (show u2 = Value.ref (G.ca kk) from r2)
      exact PySem.W.kia_one Z I.kIn p (by rw [c.K]; exact hI.ow ci kk hc.1 hc.2) hx fun tk => ⟨.bl _, H, I.tok tk, rfl, q _ _ (Grow.refl _) rfl⟩
    · cases e
  · rename_i ci fs T
    split at e
    · rename_i hc
      cases e
      obtain ⟨v1, v2, rfl, w1, w2⟩ := vwl2 w
      obtain ⟨u1, u2, rfl, r1, r2⟩ := vals2 r
      obtain ⟨P, Z, p, hx⟩ := ins_kit c hI hc.1 I w1 r1
      cases vw_ty w2
      cases (show u2 = Value.type T from r2)
      refine PySem.W.kia_one Z I.kIn p (b := false) ?_ hx fun tk => ⟨.bl _, H, I.tok tk, rfl, q _ _ (Grow.refl _) rfl⟩
      rw [c.K]
      refine (hI.bi ci hc.1 T ?_).2 ?_
      · rcases hc.2 with rfl | rfl | rfl | rfl | rfl | rfl <;> simp
      · rcases hc.2 with rfl | rfl | rfl | rfl | rfl | rfl <;> decide
    · cases e
  · rename_i d kk _
    split at e
    · rename_i hc
      obtain ⟨t, ht, rfl⟩ := Option.map_eq_some_iff.mp e
      obtain ⟨v1, v2, rfl, w1, w2⟩ := vwl2 w
      cases vw_cls w2
      refine call_isi pins s σ H _ us Q I r ⟨v1, _, .type t, .ref (G.ca kk), false, rfl, .own _, tyD_is c.K w1 ht, ?_, q _ _ (Grow.refl _) rfl⟩
      rw [c.K]
      exact (hI.bi kk hc t (tyD_mem ht)).1
    · cases e
  · exact ok_isi c pins s σ H xs us Q I r ⟨g, M, _, rr, R, w, e, q⟩
/-! a field of the handled exception -/
section
variable {x : Xn} {p : Addr × Obj} {dX : Option Addr}
/-- what is known of a field of exceptions: of all classes below n that may be raised -/
structure XfOk (G : Ga) (n i : Nat) (f : Str) : Prop where
  xf : ∀ c, c < n → XfC G.K (G.ca c) ∧ PySem.W.findIn G.K (.ref (G.ca c)) f = some none
  nm : G.fld i = f
theorem isFx_get {i : Nat} {d : D} {vfs : List (Str × V)} : ∀ {fs : List (Nat × D)}, IsFx G g H fs vfs → fs.lookup i = some d → ∃ v, vfs.lookup (G.fld i) = some v ∧ Is G g H d v
  | [], _, h => by simp at h
  | (f, d') :: fs, h, e => by
    simp only [IsFx] at h
    by_cases hf : i = f
    · subst hf
      have e2 : d' = d := by simpa [List.lookup] using e
      subst e2
      exact h.1
    · have h1 : (i == f) = false := beq_eq_false_iff_ne.mpr hf
      simp only [List.lookup, h1] at e
      exact isFx_get h.2 e
end
end
end PI
/-! PIEndZ: what the head says of own classes. -/
namespace PI
open PySem PySem.Spec PyProof.Rows L2
theorem gaY_inj {cs fs ts ds : List Str} {K : PySem.W.Frag} {i : Nat} (hn : ds.Nodup) (hi : i < ds.length) (he : (ds.all fun d => decide (d ≠ (⟨#[]⟩ : Str))) = true) : ∀ j, (gaY cs fs ts ds K).fld j = (gaY cs fs ts ds K).fld i → j = i := fun j h => by
  have h : ds.getD j ⟨#[]⟩ = ds.getD i ⟨#[]⟩ := h
  rw [List.getD_eq_getElem?_getD, List.getD_eq_getElem?_getD, List.getElem?_eq_getElem hi] at h
  by_cases hj : j < ds.length
  · rw [List.getElem?_eq_getElem hj] at h
    have h : ds[j] = ds[i] := h
    have pw := List.pairwise_iff_getElem.mp hn
    rcases Nat.lt_trichotomy j i with z | z | z
    · exact absurd h (pw j i hj hi z)
    · exact z
    · exact absurd h.symm (pw i j hi hj z)
  · rw [List.getElem?_eq_none (by omega)] at h
    have := of_decide_eq_true (List.all_eq_true.mp he ds[i] (List.getElem_mem hi))
    exact absurd h.symm this
theorem xfFact_ok {G : PySem.W.Frag → Ga} {n : Nat} {f : Str} {K : PySem.W.Frag} (hG : (G K).K = K) (h : xfFact G n f K = true) : ∀ c, c < n → XfC (G K).K ((G K).ca c) ∧ PySem.W.findIn (G K).K (.ref ((G K).ca c)) f = some none := fun c hc => by
  obtain ⟨h1, h2⟩ := Bool.and_eq_true_iff.mp (List.all_eq_true.mp h c (List.mem_range.mpr hc))
  rw [hG]
  exact ⟨xfB_ok h1, of_decide_eq_true h2⟩
theorem iuFact_ok {G : PySem.W.Frag → Ga} {lo n : Nat} {K : PySem.W.Frag} (hG : (G K).K = K) (h : iuFact G lo n K = true) : IuOk (G K) lo n := by
  have hh : ∀ c, lo ≤ c ∧ c < n → _ := fun c hc => (Bool.or_eq_true_iff.mp (List.all_eq_true.mp h c (List.mem_range.mpr hc.2))).resolve_left (by simp; omega)
  refine ⟨fun c hc => ?_, fun c hc T hT => ?_, fun c d hc hd => ?_⟩
  · have h1 := (Bool.and_eq_true_iff.mp (hh c hc)).1
    unfold clsB at h1
    simp only [Bool.and_eq_true, decide_eq_true_eq] at h1
    rw [hG]
    exact ⟨⟨h1.1.1, h1.1.2.1, h1.1.2.2.1, h1.1.2.2.2⟩, h1.2.1, h1.2.2.1, h1.2.2.2.1, h1.2.2.2.2⟩
  · have h1 := (Bool.and_eq_true_iff.mp (Bool.and_eq_true_iff.mp (hh c hc)).2).1
    have h2 := List.all_eq_true.mp h1 T hT
    simp only [Bool.and_eq_true, Bool.or_eq_true, decide_eq_true_eq] at h2
    rw [hG]
    exact ⟨h2.1, fun z => h2.2.resolve_left z⟩
  · have h1 := (Bool.and_eq_true_iff.mp (Bool.and_eq_true_iff.mp (hh c hc)).2).2
    have h2 := List.all_eq_true.mp h1 d (List.mem_range.mpr hd.2)
    simp only [Bool.or_eq_true, decide_eq_true_eq] at h2
    rw [hG]
    exact h2.resolve_left (by omega)
end PI
set_option maxHeartbeats 1000000
/-! PISndX: raise C(..) with fields; try without a name. -/
namespace PI
open PySem PySem.Spec PyProof.Rows L2
/-! ### an exception's __init__ that stores its parameters -/
def spX (K : PySem.W.Frag) (C : Addr) (fl : List Str) : Sp := fun vs H Q _ => ∃ a ys, vs = .ref a :: ys ∧ ys.length = fl.length ∧ OexC K C ∧ (∀ f ∈ fl, PySem.W.findIn K (.ref C) f = some none) ∧ H a = some (exo a C none) ∧
  ∀ H' d, H' a = some (exo a C (some d)) → H' d = some (exd d (fl.zip ys).reverse) → H d = none → (∀ b, b ≠ a → b ≠ d → H' b = H b) → Q .non H'
theorem spX_len {K : PySem.W.Frag} {C : Addr} {fl : List Str} {n : Nat} (hn : fl.length + 1 = n) : ∀ vs H Q E, spX K C fl vs H Q E → vs.length = n := fun vs H Q E ⟨a, ys, e, l, _⟩ => by rw [e, List.length_cons, l, hn]
section
variable {K : PySem.W.Frag} {C : Addr} {f1 f2 f3 : Str} {vs : List V} {H : Hp} {Q : VK} {E : XK} {N : List Str}
theorem xread1 (h : spX K C [f1] vs H Q E) {p1 : Str} : tOst K f1 (tVar 0) (tVar 1) { nx := fun _ H' => Q .non H', rt := Q } (L2.start ["self", p1] vs) H := by
  obtain ⟨a, ys, rfl, l, T, hno, ea, q⟩ := h
  match ys, l with
  | [y1], _ =>
    refine ⟨y1, rfl, .ref a, rfl, a, C, rfl, T, hno f1 (by simp), .inl ⟨ea, fun dx nd ne => ?_⟩⟩
    refine q _ dx upd_same (by rw [upd_ne ne, upd_same]; rfl) nd fun b h1 h2 => by rw [upd_ne h1, upd_ne h2]
theorem xread2 (h : spX K C [f1, f2] vs H Q E) {p1 p2 : Str} : tSeq (tOst K f1 (tVar 0) (tVar 1)) (tOst K f2 (tVar 0) (tVar 2)) { nx := fun _ H' => Q .non H', rt := Q } (L2.start ["self", p1, p2] vs) H := by
  obtain ⟨a, ys, rfl, l, T, hno, ea, q⟩ := h
  match ys, l with
  | [y1, y2], _ =>
    refine ⟨y1, rfl, .ref a, rfl, a, C, rfl, T, hno f1 (by simp), .inl ⟨ea, fun dx nd ne => ?_⟩⟩
    refine ⟨y2, rfl, .ref a, rfl, a, C, rfl, T, hno f2 (by simp), .inr ⟨dx, _, upd_same, by rw [upd_ne ne, upd_same], by simp, ?_⟩⟩
    refine q _ dx (by rw [upd_ne (Ne.symm ne), upd_same]) (by rw [upd_same]; rfl) nd fun b h1 h2 => by rw [upd_ne h2, upd_ne h1, upd_ne h2]
theorem xread3 (h : spX K C [f1, f2, f3] vs H Q E) {p1 p2 p3 : Str} : tSeq (tOst K f1 (tVar 0) (tVar 1)) (tSeq (tOst K f2 (tVar 0) (tVar 2)) (tOst K f3 (tVar 0) (tVar 3))) { nx := fun _ H' => Q .non H', rt := Q } (L2.start ["self", p1, p2, p3] vs) H := by
  obtain ⟨a, ys, rfl, l, T, hno, ea, q⟩ := h
  match ys, l with
  | [y1, y2, y3], _ =>
    refine ⟨y1, rfl, .ref a, rfl, a, C, rfl, T, hno f1 (by simp), .inl ⟨ea, fun dx nd ne => ?_⟩⟩
    refine ⟨y2, rfl, .ref a, rfl, a, C, rfl, T, hno f2 (by simp), .inr ⟨dx, _, upd_same, by rw [upd_ne ne, upd_same], by simp, ?_⟩⟩
    refine ⟨y3, rfl, .ref a, rfl, a, C, rfl, T, hno f3 (by simp), .inr ⟨dx, _, by rw [upd_ne (Ne.symm ne), upd_same], upd_same, by simp, ?_⟩⟩
    refine q _ dx (by rw [upd_ne (Ne.symm ne), upd_ne (Ne.symm ne), upd_same]) (by rw [upd_same]; rfl) nd fun b h1 h2 => by rw [upd_ne h2, upd_ne h2, upd_ne h1, upd_ne h2]
end
/-! ### made -/
/-- an exception class of the text with an __init__ that stores -/
structure KnE (P : Program) (w : World) (G : Ga) (mg : Str → Option Value) (base : Heap) (c : Nat) (x : Str) (fl : List Nat) (ps : List Str) (f : Addr) (fd : FuncData) : Prop where
  m : mg x = some (.ref (G.ca c))
  T : OexC G.K (G.ca c)
  no : ∀ i ∈ fl, PySem.W.findIn G.K (.ref (G.ca c)) (G.fld i) = some none
  ini : PySem.W.findIn G.K (.ref (G.ca c)) "__init__" = some (some (.ref f))
  ty : PySem.W.typeIn G.K (.ref f) = some (.type "function")
  fn : FnOk P w G.K mg base CX0 1 f fd ps (spX G.K (G.ca c) (fl.map G.fld))
  nd : (fl.map G.fld).Nodup
  ln : ps.length = fl.length + 1
section
variable {X : Cx} {G : Ga} {W : WX} {k c : Nat} {f : Addr} {fd : FuncData} {fl : List Nat} {ps : List Str} {pos p pos' : Pos} {x : Str} {a : Expr} {es : List Expr} {g : Gs}
theorem lookup_zip_rev {g : Gs} {H : Hp} : ∀ {fl : List Nat} {ds : List PI.D} {ys : List V}, (fl.map G.fld).Nodup → IsL G g H ds ys → ds.length = fl.length → ∀ vfs : List (Str × V), (∀ f y, (f, y) ∈ (fl.map G.fld).zip ys → vfs.lookup f = some y) → IsFx G g H (fl.zip ds) vfs
  | [], [], [], _, _, _, _, _ => by simp only [List.zip_nil_left, IsFx]
  | i :: fl, d :: ds, y :: ys, nd, q, l, vfs, h => by
    simp only [IsL] at q
    simp only [List.zip_cons_cons, IsFx]
    rw [List.map_cons, List.nodup_cons] at nd
    exact ⟨⟨y, h _ _ (by simp), q.1⟩, lookup_zip_rev nd.2 q.2 (by simpa using l) vfs fun f z hz => h f z (by simp only [List.map_cons, List.zip_cons_cons, List.mem_cons]; exact .inr hz)⟩
  | [], _ :: _, _, _, _, l, _, _ => by simp at l
  | _ :: _, [], _, _, _, l, _, _ => by simp at l
  | _, _ :: _, [], _, q, _, _, _ => by simp only [IsL] at q
  | _, [], _ :: _, _, q, _, _, _ => by simp only [IsL] at q
theorem lookup_nodup {l : List (Str × V)} (nd : (l.map (·.1)).Nodup) {f : Str} {y : V} (h : (f, y) ∈ l) : l.lookup f = some y := by
  induction l with
  | nil => cases h
  | cons p l ih =>
    obtain ⟨k, z⟩ := p
    rw [List.map_cons, List.nodup_cons] at nd
    rcases List.mem_cons.mp h with e | h
    · cases e
      simp [List.lookup]
    · have hk : f ≠ k := fun e => nd.1 (e ▸ List.mem_map_of_mem (f := (·.1)) h)
      have h2 : (f == k) = false := beq_eq_false_iff_ne.mpr hk
      simp only [List.lookup, h2]
      exact ih nd.2 h
theorem map_fst_zip' : ∀ {l : List Str} {ys : List V}, ys.length = l.length → (l.zip ys).map (·.1) = l
  | [], [], _ => rfl
  | f :: l, y :: ys, h => by rw [List.zip_cons_cons, List.map_cons, map_fst_zip' (by simpa using h)]
  | [], _ :: _, h => by simp at h
  | _ :: _, [], h => by simp at h
end
end PI
/-! PIEndW: what the head says of exception classes with an own __init__. -/
namespace PI
open PySem PySem.Spec PyProof.Rows L2
theorem excFactH_ok {G : PySem.W.Frag → Ga} {n : Nat} {pl : List Nat} {mro : Nat → List D} {ks : List D} {CA : Str} {sub : Nat → Bool} {K : PySem.W.Frag} (hG : (G K).K = K) (h : excFactH G n pl mro ks CA sub K = true) :
    XcOk (G K) n mro ks ∧ SubOk (G K) n (He.ga K CA) sub ∧ ∀ c, c ∈ pl → ExcR (G K).K ((G K).ca c) := by
  obtain ⟨ha, hb⟩ := Bool.and_eq_true_iff.mp h
  have h' : ∀ c, c < n → _ := fun c hc => List.all_eq_true.mp ha c (List.mem_range.mpr hc)
  have hb' : ∀ c, c ∈ pl → _ := fun c hc => List.all_eq_true.mp hb c hc
  simp only [Bool.and_eq_true, decide_eq_true_eq, List.all_eq_true] at h' hb'
  refine ⟨⟨fun c hc => ?_, fun c hc k hk _ => ?_⟩, ⟨fun c hc => ?_⟩, fun c hc => ?_⟩
  · rw [hG]; exact exccB_ok (h' c hc).1
  · rw [hG]; exact ((h' c hc).2.1 k hk).2
  · rw [hG]; exact (h' c hc).2.2
  · rw [hG]; exact ⟨(hb' c hc).1.1, (hb' c hc).1.2, (hb' c hc).2.1, (hb' c hc).2.2⟩
theorem oexB_ok {K : PySem.W.Frag} {C : Addr} (h : oexB K C = true) : OexC K C := by
  unfold oexB at h
  simp only [Bool.and_eq_true, decide_eq_true_eq] at h
  obtain ⟨q, h1, h2, h3, h4⟩ := h
  refine ⟨?_, He.eqO_ok h1, h2, h3, h4⟩
  split at q
  · rename_i dd cd sl ho
    split at q
    · rename_i C' bm k0 k1 k2 k3 n k5 hm hs
      simp only [Bool.and_eq_true, beq_iff_eq, Bool.not_eq_true'] at q
      obtain ⟨rfl, rfl, hdel, hd1, ht⟩ := q
      obtain ⟨nm, bs, mro, ns, qn, hd, sn, sub, ab, col, del⟩ := cd
      dsimp only at hm hdel hd1
      subst hm hdel hd1
      have hsl : sl = #[k0, k1, k2, k3, some (.builtin "ValueError.__new__"), k5] := by
        obtain ⟨l⟩ := sl
        simp only at hs
        rw [hs]
      subst hsl
      exact ⟨nm, qn, ns, bs, bm, sn, sub, ab, col, dd, k0, k1, k2, k3, k5, ho, ht⟩
    · cases q
  · cases q
theorem keFact_ok {P : Program} {w : World} {mg : Str → Option Value} {base : Heap} {G : PySem.W.Frag → Ga} {c : Nat} {fl : List Nat} {x : Str} {K : PySem.W.Frag} {ps : List Str} {fd : FuncData} (hG : (G K).K = K) (h : keFact G c fl x K = true) (m : mg x = some (.ref ((G K).ca c)))
    (fn : FnOk P w (G K).K mg base CX0 1 (He.fAd K (x, some "__init__")) fd ps (spX (G K).K ((G K).ca c) (fl.map (G K).fld))) (nd : (fl.map (G K).fld).Nodup) (ln : ps.length = fl.length + 1) : KnE P w (G K) mg base c x fl ps (He.fAd K (x, some "__init__")) fd := by
  unfold keFact at h
  simp only [Bool.and_eq_true, decide_eq_true_eq, List.all_eq_true] at h
  obtain ⟨h1, h2, h3, h4⟩ := h
  exact ⟨m, by rw [hG]; exact oexB_ok h1, fun i hi => by rw [hG]; exact He.eqO_ok (h2 i hi), by rw [hG]; exact He.eqO_ok h3, by rw [hG]; exact h4, fn, nd, ln⟩
end PI
set_option maxHeartbeats 1000000
/-! PIOwn: == by a class's own __eq__. -/
namespace PI
open PySem PySem.Spec PyProof.Rows L2
section
variable {P : Program} {w : World} {G : Ga} {mg : Str → Option Value} {base : Heap} {k : Nat} {f : Addr} {fd : FuncData} {ps : List Str} {sem : FT}
theorem isL_okR {g g' : Gs} {H : Hp} {ds : List PI.D} {vs : List V} (h : limL false 0 ds = true) (q : IsL G g H ds vs) : IsL G g' H ds vs := IsL.turn (GaEq.refl false G) (fun n hn => absurd hn (Nat.not_lt_zero n)) h q
/-- a def that makes nothing, run ahead of all objects -/
theorem FnI.pure (F : FnI P w G mg base k f fd ps sem) {A : Around} {outer : List PySem.Env} {s : Shared} {H : Hp} {args : Args} {us : List Value} {vs : List V} {g : Gs} {ds : List PI.D} {d : PI.D} {Q : VK} (hr : RoomI G.pg k A) (e0 : Env0 P w G.K mg base A outer s H)
    (hb : BindsTo s fd args (ps.zip us)) (r : Vals vs us) (q : IsL G g H ds vs) (hn : ds.length = ps.length) (hl : limL false 0 ds = true) (hm : sem ds [] = .ok (.val d) []) (hd : d.okR = true) (hQ : ∀ v H', Grow H H' → (∀ g', Is G g' H' d v) → Q v H') :
    codeAny (model P w) A (.call (.ref f) args) (CR (L2N.CX P w) outer P w H s Q fun _ _ _ => False) s := by
  refine F.run A outer s H args us vs Q _ hr e0 hb r ⟨⟨fun a => ∃ o, H a = some o, []⟩, ds, [], ⟨fun a h => h, rfl, .nil, fun a h => (nomatch h), fun n a o h1 h2 => by simp at h2⟩, fun a h _ => h, isL_okR hl q, hn, ?_⟩
  rw [hm]
  intro v H' g' N R sv
  have sv : Is G g' H' d v := sv
  exact hQ v H' (fun a o e => (N.kZ a ⟨o, e⟩).trans e) fun g2 => sv.okR (GaEq.refl false G) hd
end
/-! ### the == of a class -/
/-- a class with an own == -/
structure KnQ (P : Program) (w : World) (G : Ga) (mg : Str → Option Value) (base : Heap) (k : Nat) (ci : Nat) (ps : List Str) (sem : FT) (f : Addr) (fd : FuncData) : Prop where
  at_ : PySem.W.findIn G.K (.ref (G.ca ci)) "__eq__" = some (some (.ref f))
  isf : PySem.W.isFn G.K (.ref f) = true
  bd : Binds G.K fd ps []
  two : ps.length = 2
  fn : FnI P w G mg base k f fd ps sem
theorem KnQ.mono {P : Program} {w : World} {G : Ga} {mg : Str → Option Value} {base : Heap} {j k ci : Nat} {ps : List Str} {sem : FT} {f : Addr} {fd : FuncData} (h : KnQ P w G mg base j ci ps sem f fd) (l : j ≤ k) : KnQ P w G mg base k ci ps sem f fd := ⟨h.at_, h.isf, h.bd, h.two, h.fn.mono l⟩
end PI
set_option maxHeartbeats 1000000
/-! PIOwn2: in, with a comparison that makes objects. -/
set_option maxHeartbeats 1000000
/-! PIOwn3: in by a class's own __eq__. -/
namespace PI
open PySem PySem.Spec PyProof.Rows L2
end PI
set_option maxHeartbeats 1000000
/-! PIOwn4: str and repr by a class's own. -/
namespace PI
open PySem PySem.Spec PyProof.Rows L2
/-- a class with an own __str__, __repr__ -/
structure KnS (P : Program) (w : World) (G : Ga) (mg : Str → Option Value) (base : Heap) (k : Nat) (ci : Nat) (nm : Str) (ps : List Str) (sem : FT) (f : Addr) (fd : FuncData) : Prop where
  at_ : PySem.W.findIn G.K (.ref (G.ca ci)) nm = some (some (.ref f))
  isf : PySem.W.isFn G.K (.ref f) = true
  bd : Binds G.K fd ps []
  one : ps.length = 1
  fn : FnI P w G mg base k f fd ps sem
theorem KnS.mono {P : Program} {w : World} {G : Ga} {mg : Str → Option Value} {base : Heap} {j k ci : Nat} {nm : Str} {ps : List Str} {sem : FT} {f : Addr} {fd : FuncData} (h : KnS P w G mg base j ci nm ps sem f fd) (l : j ≤ k) : KnS P w G mg base k ci nm ps sem f fd := ⟨h.at_, h.isf, h.bd, h.one, h.fn.mono l⟩
end PI
set_option maxHeartbeats 1000000
/-! PIOwn5: == and != of lists, with a comparison that makes objects. -/
set_option maxHeartbeats 1000000
/-! PIOwn6: == and != of lists of instances. -/
namespace PI
open PySem PySem.Spec PyProof.Rows L2
end PI
set_option maxHeartbeats 1000000
/-! PIOwn7: count and index of lists, with a comparison that makes objects. -/
set_option maxHeartbeats 1000000
/-! PIOwn8: count, index by an own ==; == of an instance and anything. -/
namespace PI
open PySem PySem.Spec PyProof.Rows L2
end PI
set_option maxHeartbeats 1000000
/-! PIOwn9: != of an instance whose class has an own __eq__ alone. -/
namespace PI
open PySem PySem.Spec PyProof.Rows L2
end PI
set_option maxHeartbeats 1000000
/-! PIOwnA: a built-in's == declines an instance. -/
set_option maxHeartbeats 1000000
/-! PIOwnB: anything == an instance. -/
namespace PI
open PySem PySem.Spec PyProof.Rows L2
end PI
/-! PIEndV: what the head says of a class with an own ==. -/
namespace PI
open PySem PySem.Spec PyProof.Rows L2
end PI
/-! PISndT: a list against the empty list. -/
namespace PI
open PySem PySem.Spec PyProof.Rows L2
end PI
/-! PISndDa: dict(x), d.pop. -/
namespace PI
open PySem PySem.Spec PyProof.Rows L2
end PI
/-! PISndDb: min(xs, default=n), list(d.values()), list(d.items()). -/
namespace PI
open PySem PySem.Spec PyProof.Rows L2
end PI
/-! PISndDc: list(d.values()), list(d.items()). -/
namespace PI
open PySem PySem.Spec PyProof.Rows L2
end PI
set_option maxHeartbeats 1000000
/-! PISndLn: len by a class's own. -/
namespace PI
open PySem PySem.Spec PyProof.Rows L2
end PI
set_option maxHeartbeats 1000000
/-! PISndTg: an except suite of simple expressions. -/
namespace PI
open PySem PySem.Spec PyProof.Rows L2
section
variable {X : Cx} {G : Ga} {W : WX} {k n : Nat} {CA : Addr} {nm cx : Str} {sub : Nat → Bool} {i : Nat}
theorem hG_mk {N i : Nat} {hb : EM Fl} {x : Xn} {d : D} (h : hG N i hb x = some d) : d.okR = true ∧ ∃ e', hb ((List.replicate N (none : Option SV)).set i (some (.val (.exn x.c x.fs)))) [] = .ok (.ret (.val d)) e' [] := by
  have hlt := hG_lt h
  unfold hG at h
  rw [if_pos hlt] at h
  split at h
  · rename_i d' e' heq
    split at h
    · cases h
      exact ⟨by assumption, e', heq⟩
    · cases h
  · cases h
end
end PI
set_option maxHeartbeats 4000000
/-! PISndKx: an own exception class called with keywords. -/
namespace PySem
namespace KX
open Builtin Builtin.ObjectAttr HandSPX
section
variable {M : Model} {A : Around} {E : Value → Shared → Prop} {h : Heap} {g : Array GenState} {d : Drawn} {t : Nat} {os : OsState}
variable {nm q : Str} {C N : Addr} {bs bm bmB : List Value} {hdct : Bool} {sn : List Str} {sub : List Value} {ab : Bool} {col : Option Bool} {dd : Option Addr} {k0 k1 k2 k3 k5 : Option Value} {B newId initId : String} {kw : List (Str × Value)}
theorem check_newK (F : ExcBaseFacts B newId initId bmB) (hT : ∀ Y : String, bm.contains (.type Y) = bmB.contains (.type Y)) {rest : List Value} {Q : Unit → Shared → Prop} (eC : h.get? C = some (excClassObj nm q C N bs bm hdct sn sub ab col dd k0 k1 k2 k3 k5 newId))
    (kq : Q () ⟨h, g, d, t, os⟩) : wpAny M A (checkBuiltinCall newId ⟨.ref C :: rest, kw⟩) Q E ⟨h, g, d, t, os⟩ := by
  have c1 : (Value.ref C :: bm).contains (.type B) = true := by rw [List.contains_cons, hT, F.hasB, Bool.or_true]
  have c2 := F.noStar
  simp only [checkBuiltinCall, F.newKind, F.newSplit, F.newRow]
  repeat (first | refine wpAny_loadPart_at eC ?_ | (refine wpAny_isSubtype_exc eC ?_; rw [c1]) | refine wpAny_staticBase_exc eC ?_ | refine wpAny_madeBy_exc eC ?_ | simp only [bne_self_eq_false, Bool.false_eq_true, if_false] | wp_step)
  exact kq
end
section
variable {prog : Program} {w : World} {A : Around} {R : Result → Shared → Prop} {E : Value → Shared → Prop} {h : Heap} {g : Array GenState} {d : Drawn} {t : Nat} {os : OsState}
variable {nm q : Str} {C N : Addr} {bs bm bmB : List Value} {hdct : Bool} {sn : List Str} {sub : List Value} {ab : Bool} {col : Option Bool} {dd : Option Addr} {k0 k1 k2 k3 k5 : Option Value} {B newId initId : String} {kw : List (Str × Value)}
theorem newK (F : ExcBaseFacts B newId initId bmB) (hT : ∀ Y : String, bm.contains (.type Y) = bmB.contains (.type Y)) {rest : List Value} (eC : h.get? C = some (excClassObj nm q C N bs bm hdct sn sub ab col dd k0 k1 k2 k3 k5 newId))
    (kq : R (.ok (.ret (.ref (h.objs.size + 1)))) ⟨(h.push { cls := .type "tuple", data := .seq rest.toArray }).push { cls := .ref C, data := .fields #[.ref h.objs.size, .none, .none, .none, .bool false, .none] }, g, d, t, os⟩) (hr : rest.length ≤ sizeLine) :
    codeAny (model prog w) A (.builtin newId ⟨.ref C :: rest, kw⟩) R ⟨h, g, d, t, os⟩ := by
  have c0 := F.ends
  have c1 : (Value.ref C :: bm).contains (.type B) = true := by rw [List.contains_cons, hT, F.hasB, Bool.or_true]
  have c2 : (Value.ref C :: bm).contains (.type "AttributeError") = false := by rw [List.contains_cons, hT, F.noAttr]; rfl
  have c3 : (Value.ref C :: bm).contains (.type "NameError") = false := by rw [List.contains_cons, hT, F.noName]; rfl
  refine codeAny_builtinAt F.entry ?_
  unfold Builtin.«BaseException.__new__»
  refine wpAt_bind ?_
  show wpAt _ _ _ (stack >>= _) _ _ _
  refine wpAt_bind (wpAt_stack fun p below => wpAt_of_wpAny ?_)
  wp_walk
  refine wpAt_of_wpAny ?_
  rw [F.owner]
  repeat (first | with_reducible refine wpAny_madeHere_exc F.canon eC ?_ | with_reducible refine wpAny_loadPart_at eC ?_ | (with_reducible refine wpAny_isSubtype_exc eC ?_; first | rw [c1] | rw [c2] | rw [c3]) | wp_step)
  show R _ _
  rw [Heap.size_push]
  exact kq
theorem type_callK (F : ExcBaseFacts B newId initId bmB) (hT : ∀ Y : String, bm.contains (.type Y) = bmB.contains (.type Y)) {rest : List Value} {fI : Addr} {Q : Fin → Shared → Prop} (eC : h.get? C = some (excClassObj nm q C N bs bm hdct sn sub ab col dd k0 k1 k2 k3 k5 newId))
    (hi : W.Looks (model prog w) h (typeLookup (.ref C) "__init__") (some (.ref fI))) (hb : ∀ self, W.Looks (model prog w) h (bindSpecial (.ref fI) self) (.ref fI, [self])) (hr : rest.length ≤ sizeLine)
    (kq : codeAny (model prog w) A (.call (.ref fI) ⟨.ref (h.objs.size + 1) :: rest, kw⟩) (fun r s' => match r with | .ok (.ret v) => v = .none ∧ Q (.done (.ret (.ref (h.objs.size + 1)))) s' | .ok _ => False | .error e => E e s')
      ⟨(h.push (W.kdv_tup rest)).push (excO C h.objs.size), g, d, t, os⟩) :
    wpAny (model prog w) A (Builtin.«type.__call__» ⟨.ref C :: rest, kw⟩) Q E ⟨h, g, d, t, os⟩ := by
  repeat (first | with_reducible refine wpAny_loadPart_at eC ?_ | with_reducible refine wpAny_madeBy_exc eC ?_ | wp_step)
  refine codeAny_call_builtin_code (Code.quiet_builtin _ F.quiet) (check_newK F hT eC (newK F hT eC ?_ hr))
  show wpAny _ _ _ _ _ _
  have kp : ∀ b o, h.get? b = some o → ((h.push (W.kdv_tup rest)).push (excO C h.objs.size)).get? b = some o := fun b o e => Heap.get?_push_of_some _ (Heap.get?_push_of_some _ e)
  have eC1 := kp _ _ eC
  have e2 : ((h.push (W.kdv_tup rest)).push (excO C h.objs.size)).get? (h.objs.size + 1) = some (excO C h.objs.size) := by heap_get
  have c1 : (Value.ref C :: bm).contains (.ref C) = true := by simp
  have i1 := hi.keeps kp
  have b1 := (hb (.ref (h.objs.size + 1))).keeps kp
  unfold isInstance
  repeat (first | with_reducible refine wpAny_loadPart_at e2 ?_ | (with_reducible refine wpAny_isSubtype_exc eC1 ?_; rw [c1]) | wp_step)
  show wpAny _ _ (typeLookup (.ref C) _) _ _ _
  refine i1.at (wpAny_holding (wpAny_bind (b1.at (wpAny_bind (wpAny_call (codeAny_mono kq fun r s' z => ?_))))))
  rcases r with e | (v | _ | _ | _) <;> first | exact z | exact z.elim | skip
  obtain ⟨rfl, z⟩ := z
  first
    | exact wpAny_pure (wpAny_pure z)
    | (wp_walk; exact z)
theorem call_ownK (F : ExcBaseFacts B newId initId bmB) (hT : ∀ Y : String, bm.contains (.type Y) = bmB.contains (.type Y)) {rest : List Value} {fI : Addr} (eC : h.get? C = some (excClassObj nm q C N bs bm hdct sn sub ab col dd k0 k1 k2 k3 k5 newId))
    (hi : W.Looks (model prog w) h (typeLookup (.ref C) "__init__") (some (.ref fI))) (hb : ∀ self, W.Looks (model prog w) h (bindSpecial (.ref fI) self) (.ref fI, [self])) (hr : rest.length ≤ sizeLine)
    (kq : codeAny (model prog w) (A.under (.builtin "type.__call__" ⟨.ref C :: rest, kw⟩)) (.call (.ref fI) ⟨.ref (h.objs.size + 1) :: rest, kw⟩) (W.InitBack (h.objs.size + 1) R) ⟨(h.push (W.kdv_tup rest)).push (excO C h.objs.size), g, d, t, os⟩) :
    codeAny (model prog w) A (.call (.ref C) ⟨rest, kw⟩) R ⟨h, g, d, t, os⟩ := by
  have f1 := tc_lookup
  have f2 := tc_bind (.ref C)
  have ty : (⟨h, g, d, t, os⟩ : Shared).TypeIs (.ref C) "type" := ⟨_, eC, rfl⟩
  refine codeAny_of_tree ?_
  show wpAny _ _ (callAny (.ref C) _) _ _ _
  repeat (any_goals (first | assumption | with_reducible refine wpAny_loadPart_at eC ?_ | wp_step))
  refine ⟨rfl, codeAny_call_builtin_at (Code.quiet_builtin _ (by decide +kernel)) entry_typeCall ?_⟩
  have ck : ∀ {Q : Unit → Shared → Prop} {E : Value → Shared → Prop} {A' : Around}, Q () ⟨h, g, d, t, os⟩ → wpAny (model prog w) A' (checkBuiltinCall "type.__call__" ⟨.ref C :: rest, kw⟩) Q E ⟨h, g, d, t, os⟩ := fun {Q E A'} kq => by
    have f3 := tc_sub
    simp only [checkBuiltinCall, tc_kind, tc_split]
    repeat (any_goals (first | assumption | with_reducible refine wpAny_loadPart_at eC ?_ | with_reducible refine wpAny_onRaise ?_ | with_reducible refine wpAny_map ?_ | wp_step))
  refine ck (type_callK F hT eC hi hb hr ?_)
  refine codeAny_mono kq fun r s' z => ?_
  rcases r with e | (v | _ | _ | _) <;> exact z
end
end KX
end PySem
namespace PI
open PySem PySem.Spec PyProof.Rows L2
section
variable {X : Cx} {G : Ga} {W : WX} {k c : Nat} {f : Addr} {fd : FuncData} {fl : List Nat} {ps : List Str} {pos p pos' : Pos} {x : Str} {a : Expr} {es : List Expr} {g : Gs}
/-- the making, with keywords -/
theorem mkE_runK (c0 : XI X G W k) (h : KnE X.prog X.w G X.mg X.base c x fl ps f fd) {pins : List (Addr × Obj)} {σ : St} {H : Hp} {s : Shared} {us ys : List Value} {vs : List V} {kw : List (Str × Value)} {Q : XK} (I : Inv X pins σ H s)
    (hb : ∀ (s' : Shared) (y : Addr), X.K.In s'.heap → BindsTo s' fd ⟨.ref y :: us, kw⟩ (ps.zip (.ref y :: ys))) (r : Vals vs ys) (hn : us.length ≤ 1000)
    (hl : vs.length = fl.length) (q : ∀ d H', H d = none → H' d = some (.xd ((fl.map G.fld).zip vs).reverse) → (∀ b, b ≠ d → H b = none ∨ H' b = H b) → Grow H H' → Q (.ref (G.ca c)) (some d) H') (hj : 2 ≤ k) :
    wpAny (model X.prog X.w) X.A (call (.ref (G.ca c)) us kw) (L2N.MkP X pins σ Q) X.xe s := by
  have hT := h.T
  have hini := h.ini
  have hty := h.ty
  have hfn := h.fn
  rw [← c0.K] at hT hini hty hfn
  obtain ⟨nm, qn, N, bs, bm, sn, sub, ab, col, dd, k0, k1, k2, k3, k5, hC, hbm⟩ := hT.cls
  obtain ⟨hp, gg, dr, tk, os⟩ := s
  have hsz : hp.objs.size ≤ hp.objs.size + 1 := Nat.le_succ _
  have hnn : H (hp.objs.size + 1) = none := I.hok.fresh hsz
  have kk : ∀ b o, hp.get? b = some o → ((hp.push (PySem.W.kdv_tup us)).push (PySem.HandSPX.excO (G.ca c) hp.objs.size)).get? b = some o := fun b o e => Heap.get?_push_of_some _ (Heap.get?_push_of_some _ e)
  have hget : ((hp.push (PySem.W.kdv_tup us)).push (PySem.HandSPX.excO (G.ca c) hp.objs.size)).get? (hp.objs.size + 1) = some (PySem.HandSPX.excO (G.ca c) hp.objs.size) := by
    have := Heap.get?_push_size (hp.push (PySem.W.kdv_tup us)) (o := PySem.HandSPX.excO (G.ca c) hp.objs.size) rfl
    rwa [Heap.size_push] at this
  have I2 : Inv X pins σ (upd H (hp.objs.size + 1) (exo (hp.objs.size + 1) (G.ca c) none)) ⟨(hp.push (PySem.W.kdv_tup us)).push (PySem.HandSPX.excO (G.ca c) hp.objs.size), gg, dr, tk, os⟩ :=
    I.laid (t' := tk) (a := hp.objs.size + 1) (o := exo (hp.objs.size + 1) (G.ca c) none) (h' := (hp.push (PySem.W.kdv_tup us)).push (PySem.HandSPX.excO (G.ca c) hp.objs.size)) kk hsz (exo_ok hget)
  have r2 : Vals (V.ref (hp.objs.size + 1) :: vs) (Value.ref (hp.objs.size + 1) :: ys) := .cons rfl r
  have hus : us.length ≤ sizeLine := by rw [sizeLine_eq]; omega
  have hsp : spX X.K (G.ca c) (fl.map G.fld) (V.ref (hp.objs.size + 1) :: vs) (upd H (hp.objs.size + 1) (exo (hp.objs.size + 1) (G.ca c) none)) (fun v H2 => v = .non ∧ ∃ d, H2 (hp.objs.size + 1) = some (exo (hp.objs.size + 1) (G.ca c) (some d)) ∧ H2 d = some (exd d ((fl.map G.fld).zip vs).reverse) ∧ H d = none ∧
      ∀ b, b ≠ hp.objs.size + 1 → b ≠ d → H2 b = H b) (fun _ _ _ => False) := by
    refine ⟨_, _, rfl, by rw [List.length_map]; exact hl, hT, fun z hz => ?_, upd_same, fun H' d e1 e2 e3 e4 => ⟨rfl, d, e1, e2, ?_, fun b h1 h2 => by rw [e4 b h1 h2, upd_ne h1]⟩⟩
    · obtain ⟨i, hi, rfl⟩ := List.mem_map.mp hz
      have := h.no i hi
      rw [← c0.K] at this
      exact this
    · by_cases hda : d = hp.objs.size + 1
      · subst hda; exact hnn
      · rwa [upd_ne hda] at e3
  refine wpAny_call (PySem.KX.call_ownK F.excBase_ValueError (fun Y => PySem.HandSPX.refsVE_contains Y bm hbm) (I.kIn _ _ hC) (PySem.W.looks_findIn I.kIn hini) (fun self => PySem.W.bind_fn I.kIn self hty) hus
    (codeAny_mono (hfn.run _ X.stack _ _ ⟨Value.ref (hp.objs.size + 1) :: us, kw⟩ (Value.ref (hp.objs.size + 1) :: ys) _ _ (fun _ _ _ => False) ((c0.mono hj).roomC.make (G.ca c) us kw) (I2.env0.make (G.ca c) us kw) (hb _ (hp.objs.size + 1) I2.kIn) r2 hsp) fun r s' hq' => ?_))
  cases r with
  | error er => exact pass0 pins σ _ _ er s' I2 hq'
  | ok fl' =>
    cases fl' with
    | ret u =>
      obtain ⟨v, H2, os2, bare2, un2, hok2, rv, ev, d, ea, ed, hd1, same⟩ := hq'
      subst ev
      obtain ⟨h2, g2, d2, t2, os'⟩ := s'
      obtain ⟨t0, Gh, J, kG, ge, hoe, na⟩ := mk_end0 (d2 := d2) (t2 := t2) I hsz kk un2 hok2 os2 bare2 ea ed hd1
      have hda : d ≠ hp.objs.size + 1 := fun z => by
        rw [z] at ed
        rw [ea] at ed
        have z2 := Option.some.inj ed
        have z3 := na
        rw [← z, upd_same] at z3
        cases z3
      refine ⟨rv, ⟨hp.objs.size + 1, _, _, ⟨Gh, g2, d2, t2, os'⟩, _, .ref (G.ca c), some d, rfl, J, kG, ge, hoe, ⟨rfl, rfl, fun vs hv => ?_⟩, rfl, rfl, na, rfl, bare2, raises_own hT.exC hT.tyC, q d _ hd1 upd_same (fun b hbd => ?_) fun b o hb => ?_⟩⟩
      · cases hv
        rfl
      · rw [upd_ne hbd]
        by_cases hba : b = hp.objs.size + 1
        · subst hba; exact .inl hnn
        · rw [del_ne hba]
          exact .inr (same b hba hbd)
      · have hbd : b ≠ d := ne_of_none hb hd1
        have hba : b ≠ hp.objs.size + 1 := ne_of_none hb hnn
        rw [upd_ne hbd, del_ne hba, same b hba hbd]
        exact hb
    | next => exact False.elim hq'
    | brk => exact False.elim hq'
    | cont => exact False.elim hq'
end
end PI
/-! PIEndU: what the head says of the classes that except clauses name. -/
namespace PI
open PySem PySem.Spec PyProof.Rows L2
theorem subFact_ok {G : PySem.W.Frag → Ga} {n : Nat} {CA : Str} {sub : Nat → Bool} {K : PySem.W.Frag} (hG : (G K).K = K) (h : subFact G n CA sub K = true) : SubOk (G K) n (He.ga K CA) sub :=
  ⟨fun c hc => by rw [hG]; exact of_decide_eq_true (List.all_eq_true.mp h c (List.mem_range.mpr hc))⟩
end PI
set_option maxHeartbeats 4000000
/-! PIExL: raise C(..) with fields, C's family LookupError. -/
namespace PySem
namespace ExL
open Builtin Builtin.ObjectAttr HandSPX
abbrev leB : List Value := [.type "LookupError", .type "Exception", .type "BaseException", .type "object"]
section
variable {prog : Program} {w : World} {A : Around} {R : Result → Shared → Prop} {hp : Heap} {g : Array GenState} {d : Drawn} {t : Nat} {os : OsState} {K : W.Frag} {nm : Str} {tk : Tok} {v : Value} {x C dx : Addr} {fv : Array Value} {cd : ClassData} {bm : List Value}
theorem over_of (hcd : W.clsIn K C = some cd) (hm : cd.mro = .ref C :: bm) (ht : W.excTail leB bm = true) : W.excOver K C leB = true := by
  unfold W.excOver
  rw [hcd, Option.any_some, hm]
  simp only [beq_self_eq_true, ht, Bool.and_self]
theorem taker_of (hn : W.findIn K (.ref C) nm = some none) : W.takerIn K C nm = some none := by
  unfold W.takerIn
  rw [hn] <;> rfl
/-- the first field -/
theorem osa_new (X : K.In hp) (hx : hp.get? x = some { cls := .ref C, data := .fields fv }) (hcd : W.clsIn K C = some cd) (hm : cd.mro = .ref C :: bm) (ht : W.excTail leB bm = true) (hh : cd.hasDict = true) (hn : W.findIn K (.ref C) nm = some none)
    (kq : ∀ h' tk' dx, (∀ b o, b ≠ x → hp.get? b = some o → h'.get? b = some o) → hp.objs.size ≤ dx → dx ≠ x → h'.get? x = some { cls := .ref C, dict := some dx, data := .fields fv } → h'.Ns1 dx (fun y => if y = nm then some v else none) → R (.ok (.ret .none)) ⟨h', g, d, tk', os⟩) :
    codeAny (model prog w) A (.call (.builtin "object.__setattr__") ⟨[.ref x, .str nm tk, v], []⟩) R ⟨hp, g, d, t, os⟩ := by
  have nx : x ≠ hp.objs.size := Nat.ne_of_lt (Heap.lt_size hx)
  have lk : W.Looks (model prog w) hp (classData C) cd := W.looks_clsIn X hcd
  refine W.osa_openX (s := ⟨hp, g, d, t, os⟩) (od := none) PySem.F.store_LookupError X ⟨hx, rfl, rfl, trivial⟩ (over_of hcd hm ht) (taker_of hn) fun b => ?_
  obtain ⟨n0, bs, mro, ns, qn, hd, sn, sb, ab, col, del⟩ := cd
  dsimp only at hh
  subst hh
  show wpAny _ _ (storeInOwnDict (.ref x) (.ref C) (.str nm tk) nm v b) _ _ _
  unfold storeInOwnDict ownDictForStores
  repeat (first | with_reducible refine store_in_new ?_ ?_ | with_reducible refine wpAny_loadPart_at hx ?_ | with_reducible refine lk.at ?_ | wp_step)
  · refine ⟨_, #[], _, (Heap.get?_update_ne _ _ _ _ nx.symm).trans (Heap.get?_push_at rfl rfl), rfl, fun e he => absurd he (by simp), fun _ => rfl⟩
  · intro h' tk' hn' hs
    have hx₁ : (hp.push { cls := .type "dict", data := .dict #[] }).get? x = some { cls := .ref C, data := .fields fv } := Heap.get?_push_of_some _ hx
    refine kq h' tk' hp.objs.size (fun b o hb ho => ?_) (Nat.le_refl _) nx.symm ((hs.2 x nx).trans (Heap.get?_update_self _ hx₁ rfl)) hn'
    rw [hs.2 b (Nat.ne_of_lt (Heap.lt_size ho)), Heap.get?_update_ne _ _ _ _ hb]
    exact Heap.get?_push_of_some _ ho
/-- a further field -/
theorem osa_more {m0 : Str → Option Value} {nl : List Str} (X : K.In hp) (hx : hp.get? x = some { cls := .ref C, dict := some dx, data := .fields fv }) (hns : hp.Ns1 dx m0) (hw : Within m0 nl) (hz : nl.length ≤ 1000) (hcd : W.clsIn K C = some cd) (hm : cd.mro = .ref C :: bm) (ht : W.excTail leB bm = true)
    (hh : cd.hasDict = true) (hn : W.findIn K (.ref C) nm = some none) (kq : ∀ h' tk', (∀ b o, b ≠ dx → hp.get? b = some o → h'.get? b = some o) → h'.Ns1 dx (fun y => if y = nm then some v else m0 y) → R (.ok (.ret .none)) ⟨h', g, d, tk', os⟩) :
    codeAny (model prog w) A (.call (.builtin "object.__setattr__") ⟨[.ref x, .str nm tk, v], []⟩) R ⟨hp, g, d, t, os⟩ := by
  obtain ⟨oD, esD, epD, hoD, hdD, _⟩ := hns.count hw
  have lk : W.Looks (model prog w) hp (classData C) cd := W.looks_clsIn X hcd
  refine W.osa_openX (s := ⟨hp, g, d, t, os⟩) (od := some oD) PySem.F.store_LookupError X ⟨hx, rfl, rfl, hoD⟩ (over_of hcd hm ht) (taker_of hn) fun b => ?_
  obtain ⟨n0, bs, mro, ns, qn, hd, sn, sb, ab, col, del⟩ := cd
  dsimp only at hh
  subst hh
  show wpAny _ _ (storeInOwnDict (.ref x) (.ref C) (.str nm tk) nm v b) _ _ _
  unfold storeInOwnDict ownDictForStores
  repeat (first | with_reducible refine PySem.OEX.store_in_old hns hw hz ?_ | with_reducible refine wpAny_loadPart_at hx ?_ | with_reducible refine lk.at ?_ | wp_step)
  intro h' tk' hn' hs
  refine kq h' tk' (fun b o hb ho => ?_) hn'
  rw [hs.2 b hb]
  exact ho
end
end ExL
end PySem
namespace PI
open PySem PySem.Spec PyProof.Rows L2
/-- what the written part says of the class -/
structure OexL (K : PySem.W.Frag) (C : Addr) : Prop where
  cls : ∃ nm q N bs bm sn sub ab col dd k0 k1 k2 k3 k5, K.lookup C = some (excClassObj nm q C N bs bm true sn sub ab col dd k0 k1 k2 k3 k5 "LookupError.__new__") ∧ PySem.W.excTail ExL.leB bm = true
  sa : PySem.W.findIn K (.ref C) "__setattr__" = some (some (.builtin "object.__setattr__"))
  exC : PySem.W.subIn K (.ref C) (.type "BaseException") = some true
  tyC : PySem.W.typeIn K (.ref C) = some (.type "type")
  kC : PySem.W.keepIn K (.ref C) = true
section
variable {X : Cx} {pins : List (Addr × Obj)} {σ : St} {H : Hp} {s : Shared} {a C dx : Addr} {f : Str} {y : V} {u : Value} {fs : List (Str × V)} {Q : Unit → Shared → Prop} {E : Value → Shared → Prop} {A : Around}
theorem OexL.clsIn (T : OexL X.K C) : ∃ (cd : ClassData) (bm : List Value), PySem.W.clsIn X.K C = some cd ∧ cd.mro = .ref C :: bm ∧ PySem.W.excTail ExL.leB bm = true ∧ cd.hasDict = true := by
  obtain ⟨nm, q, N, bs, bm, sn, sub, ab, col, dd, k0, k1, k2, k3, k5, hC, hbm⟩ := T.cls
  refine ⟨{ name := nm, bases := bs, mro := .ref C :: bm, ns := N, qualname := q, hasDict := true, slotNames := sn, subclasses := sub, abstract := ab, collection := col, hasDel := false }, bm, ?_, rfl, hbm, rfl⟩
  unfold PySem.W.clsIn
  rw [hC] <;> rfl
theorem ostL_new (T : OexL X.K C) (I : Inv X pins σ H s) (ea : H a = some (exo a C none)) (hno : PySem.W.findIn X.K (.ref C) f = some none) (ry : RelV y u)
    (kq : ∀ dx s', H dx = none → dx ≠ a → Inv X pins σ (upd (upd H dx (exd dx [(f, y)])) a (exo a C (some dx))) s' → Q () s') : wpAny (model X.prog X.w) A (setAttr (.ref a) f u) Q E s := by
  obtain ⟨cd, bm, c1, c2, c3, c4⟩ := T.clsIn
  obtain ⟨t1, ho⟩ := exo_at I.hok ea
  obtain ⟨hp, g, d, t, os⟩ := s
  refine PySem.W.set_plain (od := none) I.kIn ⟨ho, rfl, rfl, trivial⟩ T.sa (ExL.osa_new I.kIn ho c1 c2 c3 c4 hno fun h' tk' dx k dn dne hx hn => ?_)
  have hnd : H dx = none := I.hok.fresh dn
  have na : ∀ {b : Addr}, H b = none → b ≠ a := fun {b} n z => by rw [z, ea] at n; cases n
  have nd : ∀ {b : Addr} {o : Obj}, hp.get? b = some o → b ≠ dx := fun {b o} q => Nat.ne_of_lt (Nat.lt_of_lt_of_le (Heap.lt_size q) dn)
  have ut : ∀ {b : Addr} {o : HO}, H b = some o → exo a C none ≠ o → upd (upd H dx (exd dx [(f, y)])) a (exo a C (some dx)) b = H b := fun {b o} q nq => by rw [upd_ne (at_ne ea q nq), upd_ne (ne_of_none q hnd)]
  have un : Un X.fs [] H (upd (upd H dx (exd dx [(f, y)])) a (exo a C (some dx))) hp h' := ⟨fun b o q n _ _ => k b o (na n) q, fun b o q n _ _ => ⟨o.slots, k b o (na n) q⟩,
    fun b o q n _ => by rw [upd_ne (na n), upd_ne (nd q)]; exact n, fun b o q _ => (Decidable.em (b = a)).elim (fun hb => by subst hb; exact ⟨_, hx⟩) fun hb => ⟨o, k b o hb q⟩, fun b xs q => (ut q exo_tup).trans q, fun b o v q => (ut q exo_frz).trans q,
    fun b ps q => ⟨#[], by rw [ut q exo_tbl, q, Array.append_empty]⟩⟩
  refine kq dx _ hnd dne (I.un (t' := tk') un fun b o q => ?_)
  rcases Decidable.em (b = a) with hb | hb
  · subst hb
    rw [upd_same] at q
    cases q
    exact exo_ok hx
  rw [upd_ne hb] at q
  rcases Decidable.em (b = dx) with hd | hd
  · subst hd
    rw [upd_same] at q
    cases q
    exact exd_ok hn (relO_put (fs := []) ry fun _ => True.intro)
  rw [upd_ne hd] at q
  exact (I.hok b o q).stay (fun c v hc z => k c v (hc.elim (fun hc => by rw [hc]; exact hb) fun hc => at_ne ea hc exo_own) z) (fun c hc => (ut hc exo_own).trans hc) fun c xs hc => (ut hc exo_tup).trans hc
theorem ostL_old (T : OexL X.K C) (I : Inv X pins σ H s) (ea : H a = some (exo a C (some dx))) (ed : H dx = some (exd dx fs)) (hl : fs.length ≤ 900) (hno : PySem.W.findIn X.K (.ref C) f = some none) (ry : RelV y u)
    (kq : ∀ s', Inv X pins σ (upd H dx (exd dx ((f, y) :: fs))) s' → Q () s') : wpAny (model X.prog X.w) A (setAttr (.ref a) f u) Q E s := by
  obtain ⟨cd, bm, c1, c2, c3, c4⟩ := T.clsIn
  obtain ⟨t1, ho⟩ := exo_at I.hok ea
  obtain ⟨mA, hns, rel⟩ := exd_at I.hok ed
  obtain ⟨hp, g, d, t, os⟩ := s
  obtain ⟨oD, _, _, hoD, _, _⟩ := hns.count (within_of rel)
  refine PySem.W.set_plain (od := some oD) I.kIn ⟨ho, rfl, rfl, hoD⟩ T.sa (ExL.osa_more I.kIn ho hns (within_of rel) (by rw [List.length_map]; omega) c1 c2 c3 c4 hno fun h' tk' k hn => kq _ ?_)
  refine I.write (t' := tk') (x := dx) (e := dx) (o := exd dx ((f, y) :: fs)) (by rw [ed]; trivial) (.inl rfl) k ?_ (exd_ok hn (relO_put ry rel))
  obtain ⟨o, _, _, e', _⟩ := hn
  exact ⟨o, e'⟩
end
/-- self.f = value in such an __init__ -/
def tOstL (K : PySem.W.Frag) (f : Str) (to te : TE) : TS := fun D σ H => te σ H fun y H1 => to σ H1 fun x H2 => ∃ a C : Addr, x = .ref a ∧ OexL K C ∧ PySem.W.findIn K (.ref C) f = some none ∧
  ((H2 a = some (exo a C none) ∧ ∀ dx, H2 dx = none → dx ≠ a → D.nx σ (upd (upd H2 dx (exd dx [(f, y)])) a (exo a C (some dx)))) ∨ ∃ (dx : Addr) (fs : List (Str × V)), H2 a = some (exo a C (some dx)) ∧ H2 dx = some (exd dx fs) ∧ fs.length ≤ 900 ∧ D.nx σ (upd H2 dx (exd dx ((f, y) :: fs))))
theorem ps_ostL {X : Cx} {o e : Expr} {to te : TE} {f : Str} {p' pos : Pos} (ho : PE X o to) (he : PE X e te) (hs : swapsWith e (some (.Attribute o f p')) pos.line X.env = pure false := by rfl) : PS X (.Assign [.Attribute o f p'] e pos) (tOstL X.K f to te) := by
  refine ⟨fun pins s σ H D I hh => plainObj_wpAny_Assign_Attribute (thn (he.run pins s σ H _ I hh) fun v s1 ⟨y, H1, I1, r1, q1⟩ => thn (ho.run pins s1 σ H1 _ I1 q1) fun u s2 h2 => ?_) hs⟩
  obtain ⟨x, H2, I2, r2, a, C, rfl, T, hno, q⟩ := h2
  cases (show u = Value.ref a from r2)
  rcases q with ⟨ea, q⟩ | ⟨dx, fs, ea, ed, hl, q⟩
  · exact ostL_new T I2 ea hno r1 fun dx s' n ne J => ⟨σ, _, J, q dx n ne⟩
  · exact ostL_old T I2 ea ed hl hno r1 fun s' J => ⟨σ, _, J, q⟩
/-- an __init__ of two parameters that stores them -/
def spXL (K : PySem.W.Frag) (C : Addr) (fl : List Str) : Sp := fun vs H Q _ => ∃ a ys, vs = .ref a :: ys ∧ ys.length = fl.length ∧ OexL K C ∧ (∀ f ∈ fl, PySem.W.findIn K (.ref C) f = some none) ∧ H a = some (exo a C none) ∧
  ∀ H' d, H' a = some (exo a C (some d)) → H' d = some (exd d (fl.zip ys).reverse) → H d = none → (∀ b, b ≠ a → b ≠ d → H' b = H b) → Q .non H'
theorem spXL_len {K : PySem.W.Frag} {C : Addr} {fl : List Str} {n : Nat} (hn : fl.length + 1 = n) : ∀ vs H Q E, spXL K C fl vs H Q E → vs.length = n := fun vs H Q E ⟨a, ys, e, l, _⟩ => by rw [e, List.length_cons, l, hn]
theorem xreadL2 {K : PySem.W.Frag} {C : Addr} {f1 f2 : Str} {vs : List V} {H : Hp} {Q : VK} {E : XK} (h : spXL K C [f1, f2] vs H Q E) {p1 p2 : Str} : tSeq (tOstL K f1 (tVar 0) (tVar 1)) (tOstL K f2 (tVar 0) (tVar 2)) { nx := fun _ H' => Q .non H', rt := Q } (L2.start ["self", p1, p2] vs) H := by
  obtain ⟨a, ys, rfl, l, T, hno, ea, q⟩ := h
  match ys, l with
  | [y1, y2], _ =>
    refine ⟨y1, rfl, .ref a, rfl, a, C, rfl, T, hno f1 (by simp), .inl ⟨ea, fun dx nd ne => ⟨y2, rfl, .ref a, rfl, a, C, rfl, T, hno f2 (by simp), .inr ⟨dx, _, upd_same, by rw [upd_ne ne, upd_same], by simp, ?_⟩⟩⟩⟩
    exact q _ dx (by rw [upd_ne (Ne.symm ne), upd_same]) (by rw [upd_same]; rfl) nd fun b h1 h2 => by rw [upd_ne h2, upd_ne h1, upd_ne h2]
/-- an exception class of the text with an __init__ that stores -/
structure KnEL (P : Program) (w : World) (G : Ga) (mg : Str → Option Value) (base : Heap) (c : Nat) (x : Str) (fl : List Nat) (ps : List Str) (f : Addr) (fd : FuncData) : Prop where
  m : mg x = some (.ref (G.ca c))
  T : OexL G.K (G.ca c)
  no : ∀ i ∈ fl, PySem.W.findIn G.K (.ref (G.ca c)) (G.fld i) = some none
  ini : PySem.W.findIn G.K (.ref (G.ca c)) "__init__" = some (some (.ref f))
  ty : PySem.W.typeIn G.K (.ref f) = some (.type "function")
  fn : FnOk P w G.K mg base CX0 1 f fd ps (spXL G.K (G.ca c) (fl.map G.fld))
  nd : (fl.map G.fld).Nodup
  ln : ps.length = fl.length + 1
end PI
set_option maxHeartbeats 1000000
/-! PISndAt: attributes as targets; dict displays by texts; own len, str, repr of shared instances: soundness. -/
namespace PI
open PySem PySem.Spec PyProof.Rows L2
/-! ### dict displays -/
/-! ### len, str, repr by a class's own, the instance wherever it stands -/
end PI
/-! PIEndL: what the head says of exception classes of the family LookupError. -/
namespace PI
open PySem PySem.Spec PyProof.Rows L2
theorem oexlB_ok {K : PySem.W.Frag} {C : Addr} (h : oexlB K C = true) : OexL K C := by
  unfold oexlB at h
  simp only [Bool.and_eq_true, decide_eq_true_eq] at h
  obtain ⟨q, h1, h2, h3, h4⟩ := h
  refine ⟨?_, He.eqO_ok h1, h2, h3, h4⟩
  split at q
  case h_2 => cases q
  rename_i dd cd sl ho
  split at q
  case h_2 => cases q
  rename_i C' bm k0 k1 k2 k3 n k5 hm hs
  simp only [Bool.and_eq_true, beq_iff_eq, Bool.not_eq_true'] at q
  obtain ⟨rfl, rfl, hdel, hd1, ht⟩ := q
  obtain ⟨nm, bs, mro, ns, qn, hd, sn, sub, ab, col, del⟩ := cd
  dsimp only at hm hdel hd1
  subst hm hdel hd1
  have hsl : sl = #[k0, k1, k2, k3, some (.builtin "LookupError.__new__"), k5] := by
    obtain ⟨l⟩ := sl
    simp only at hs
    rw [hs]
  subst hsl
  exact ⟨nm, qn, ns, bs, bm, sn, sub, ab, col, dd, k0, k1, k2, k3, k5, ho, ht⟩
theorem keFactL_ok {P : Program} {w : World} {mg : Str → Option Value} {base : Heap} {G : PySem.W.Frag → Ga} {c : Nat} {fl : List Nat} {x : Str} {K : PySem.W.Frag} {ps : List Str} {fd : FuncData} (hG : (G K).K = K) (h : keFactL G c fl x K = true) (m : mg x = some (.ref ((G K).ca c)))
    (fn : FnOk P w (G K).K mg base CX0 1 (He.fAd K (x, some "__init__")) fd ps (spXL (G K).K ((G K).ca c) (fl.map (G K).fld))) (nd : (fl.map (G K).fld).Nodup) (ln : ps.length = fl.length + 1) : KnEL P w (G K) mg base c x fl ps (He.fAd K (x, some "__init__")) fd := by
  unfold keFactL at h
  simp only [Bool.and_eq_true, decide_eq_true_eq, List.all_eq_true] at h
  exact ⟨m, by rw [hG]; exact oexlB_ok h.1, fun i hi => by rw [hG]; exact He.eqO_ok (h.2.1 i hi), by rw [hG]; exact He.eqO_ok h.2.2.1, by rw [hG]; exact h.2.2.2, fn, nd, ln⟩
end PI
/-! PIRunS: the head's one kernel run in parts, each with less memory. -/
namespace PI
open PySem PySem.Spec PySem.W PySem.Calls PyProof.Rows HandSHeadRun
end PI
/-! PIRunL: the hook over given addresses; the head's run in parts. -/
namespace PI
open PySem PySem.Spec PySem.W PySem.Calls PyProof.Rows HandSHeadRun
def obsZG (as : List Addr) (fa : List He.Fa) (fn : List He.DefD) (xs : List (PySem.W.Frag → Bool)) (ts : List TabS) (g : Addr → Option Obj) : AlY := obsY fa fn xs ts (He.frG g as)
def hookZ (as : List Addr) (fa : List He.Fa) (fn : List He.DefD) (xs : List (PySem.W.Frag → Bool)) (ts : List TabS) : PySem.W.Hook where
  α := AlY
  obs := fun s => obsZG as fa fn xs ts s.heap.get?
  val := fun w => valY fn ts w
  says := fun w h => ∃ K : PySem.W.Frag, K.In h ∧ SaysY fa fn xs ts w K
  of := fun w s e => ⟨He.frG s.heap.get? as, He.frG_in, SaysY.of (w := w) e⟩
  keeps := fun _ _ _ ⟨K, hK, c⟩ k => ⟨K, PySem.W.Frag.In.keeps hK k, c⟩
theorem obsZG_eq {as : List Addr} {fa : List He.Fa} {fn : List He.DefD} {xs : List (PySem.W.Frag → Bool)} {ts : List TabS} {g : Addr → Option Obj} {s : Shared} (h : ∀ a, g a = s.heap.get? a) : obsZG as fa fn xs ts g = (hookZ as fa fn xs ts).obs s := by
  have e : g = s.heap.get? := funext h
  rw [e] <;> rfl
theorem run_partsL {r : OpenRow} {q : Program} {M : Nat} {as : List Addr} {loose : List PySem.Str} {w : World} {fa : List He.Fa} {fn : List He.DefD} {xs ys zs : List (PySem.W.Frag → Bool)}
    (h1 : ∀ os : OsState, (endF (stepQ (denQ tabQ) r.prog w) M r.prog w os).map (fun s => (looksF r.prog (boot_heap w.params) s.abs, seenQ q loose (importedModules r.prog.main.body) (fun s => xlAt q [] s && recOk r.toRowW.records s) s.abs)) = some (true, openGood q loose))
    (h2 : ∀ os : OsState, (endF (stepQ (denQ tabQ) r.prog w) M r.prog w os).map (fun s => (fa.all fun f => f.ok (endL as s)) && fn.all fun d => d.ok (endL as s)) = some true)
    (h3 : ∀ os : OsState, (endF (stepQ (denQ tabQ) r.prog w) M r.prog w os).map (fun s => fn.map fun d => He.fnW (endL as s) d.at_) = some (fn.map He.DefD.val))
    (h4 : ∀ os : OsState, (endF (stepQ (denQ tabQ) r.prog w) M r.prog w os).map (fun s => xs.all fun b => b (endL as s)) = some true)
    (h5 : ∀ os : OsState, (endF (stepQ (denQ tabQ) r.prog w) M r.prog w os).map (fun s => ys.all fun b => b (endL as s)) = some true)
    (hz : zs = xs ++ ys) :
    RunEq r q (hookZ as fa fn zs []) (fun s => obsZG as fa fn zs [] (HandSHeadRun.getT s)) M loose w := by
  subst hz
  intro os
  have g1 := h1 os
  have g2 := h2 os
  have g3 := h3 os
  have g4 := h4 os
  have g5 := h5 os
  generalize endF (stepQ (denQ tabQ) r.prog w) M r.prog w os = e at *
  cases e with
  | none => cases g1
  | some s =>
    simp only [Option.map_some, Option.some.injEq, Prod.mk.injEq] at g1 g2 g3 g4 g5
    rw [Option.map_some, g1.1, g1.2]
    have o : obsZG as fa fn (xs ++ ys) [] (HandSHeadRun.getT s) = (hookZ as fa fn (xs ++ ys) []).val w := by
      show (((fa.all fun f => f.ok (endL as s)) && fn.all fun d => d.ok (endL as s), fn.map fun d => He.fnW (endL as s) d.at_), (xs ++ ys).all (fun b => b (endL as s)), []) = ((true, fn.map He.DefD.val), true, [])
      rw [g2, g3, List.all_append, g4, g5]
      rfl
    exact congrArg (fun z => some (true, openGood q loose, z)) o
end PI
set_option maxHeartbeats 0
namespace L04
section
open PySem PySem.Spec PyProof.Rows L2 PI
abbrev hk : PySem.W.Hook := PI.hookZ asL fa fn xsL tsL
def obL (s : PySem.W.SharedT) : PI.AlY := PI.obsZG asL fa fn xsL tsL (HandSHeadRun.getT s)
theorem obL_eq (s : PySem.W.SharedT) : obL s = hk.obs s.abs := PI.obsZG_eq (HandSHeadRun.getT_eq s)
end
open PySem PySem.W PySem.Calls PyProof.Rows HandSHeadRun PI
theorem runL (w : World) : HandSHeadRun.RunEq rowL (PySem.W.view rowL.prog [62]) hk obL 30000 nms w := run_partsL (run1 w) (run2 w) (run3 w) (run4 w) (run5 w) rfl
end L04
set_option maxHeartbeats 1000000
/-! PITryG: try with any number of except clauses, each of one class or of two, with or without a name. -/
namespace PI
open PySem PySem.Spec PyProof.Rows L2
/-- one clause: what it tests, the slot of its name, what its suite wishes -/
structure Cl where
  t : Value → Option Bool
  i : Option Nat
  ts : Addr → Value → Option Addr → TS
def putO (i : Option Nat) (σ : St) (v : Option V) : St := match i with
  | none => σ
  | some i => σ.set i v
def endO (i : Option Nat) (D : Ends) : Ends := match i with
  | none => D
  | some i => { nx := fun σ' H' => D.nx (σ'.set i none) H', rt := D.rt, bk := fun σ' H' => D.bk (σ'.set i none) H', ct := fun σ' H' => D.ct (σ'.set i none) H' }
def wGen (Wout : WX) (D : Ends) : List Cl → WX
  | [] => Wout
  | q :: r => fun cls d σ H => ∃ b, q.t cls = some b ∧ (b = true → ∀ a, H a = none → q.ts a cls d (endO q.i D) (putO q.i σ (some (.ref a))) H) ∧ (b = false → wGen Wout D r cls d σ H)
/-- a clause's class expression -/
inductive TestOk (X : Cx) : Expr → (Value → Option Bool) → Prop
  | one {x : Str} {c : Value} {np : Pos} (hc : Names X x c) : TestOk X (.Name x np) (fun cls => PySem.W.exmOne X.K cls c)
  | two {x1 x2 : Str} {c1 c2 : Value} {p1 p2 pos : Pos} {k : Nat} (h1 : Names X x1 c1) (h2 : Names X x2 c2) : TestOk X (.Tuple [.Name x1 p1, .Name x2 p2] k pos) (fun cls => PySem.W.exmAny X.K cls [c1, c2])
inductive HdsG (X : Cx) : List ExceptHandler → List Cl → Prop
  | nil : HdsG X [] []
  | plain {e : Expr} {t : Value → Option Bool} {ts : Addr → Value → Option Addr → TS} {b₀ : Stmt} {suite : List Stmt} {pos' : Pos} {hds : List ExceptHandler} {l : List Cl} (hc : TestOk X e t)
      (hsu : ∀ (a : Addr) (oe : Obj) (cls : Value) (d : Option Addr) (pn : List (Addr × Obj)), L2N.Zn cls d oe → (∃ vs, oe.data = .fields vs) → PSs (X.suite a ((a, oe) :: pn)) (b₀ :: suite) (ts a cls d)) (r : HdsG X hds l) :
      HdsG X (.ExceptHandler (some e) none (b₀ :: suite) pos' :: hds) (⟨t, none, ts⟩ :: l)
  | named {e : Expr} {t : Value → Option Bool} {n : Str} {i : Nat} {ts : Addr → Value → Option Addr → TS} {b₀ : Stmt} {suite : List Stmt} {pos' : Pos} {hds : List ExceptHandler} {l : List Cl} (hi : X.N[i]? = some n) (hln : X.env.kindOf n = some .local) (hc : TestOk X e t)
      (hsu : ∀ (a : Addr) (oe : Obj) (cls : Value) (d : Option Addr) (pn : List (Addr × Obj)), L2N.Zn cls d oe → (∃ vs, oe.data = .fields vs) → PSs (X.suite a ((a, oe) :: pn)) (b₀ :: suite) (ts a cls d)) (r : HdsG X hds l) :
      HdsG X (.ExceptHandler (some e) (some n) (b₀ :: suite) pos' :: hds) (⟨t, some i, ts⟩ :: l)
theorem flying_push {B h : Heap} {l : List PySem.Env} {a : Addr} {Z : Obj → Prop} (o : Obj) (f : HandSPX.FlyingZ B l a Z h) : HandSPX.FlyingZ B l a Z (h.push o) := by
  obtain ⟨k1, k2, k3, oe, vs, T, oT, ts, he, hz, hd, h1, hT, hne, hoT, hts, h3⟩ := f
  exact ⟨fun b x e => Heap.get?_push_of_some _ (k1 b x e), k2, Heap.FunFrames.of_keeps (fun b x e _ => ⟨x, Heap.get?_push_of_some _ e, rfl⟩) k3, oe, vs, T, oT, ts, Heap.get?_push_of_some _ he, hz, hd, h1, hT, hne, Heap.get?_push_of_some _ hoT, hts, h3⟩
theorem upTo_push (h : Heap) (o : Obj) : h.UpToSlots (h.push o) := Heap.UpToSlots.of_keeps fun b x e => Heap.get?_push_of_some _ e
section
variable {X : Cx} {body : List Stmt} {h₀ : ExceptHandler} {hds : List ExceptHandler} {l : List Cl} {pos : Pos} {tb : WX → TS} {Wout : WX}
theorem names_ld {Y : Cx} {x : Str} {c : Value} {np : Pos} {pn : List (Addr × Obj)} {σ : St} {H : Hp} {s : Shared} {Q : Value → Shared → Prop} {E : Value → Shared → Prop} (hc : Names Y x c) (S : Inv Y pn σ H s) (q : Q c s) :
    wpAny (model Y.prog Y.w) Y.A (eval (.Name x np) Y.env) Q E s := by
  obtain ⟨hg, hdbg, hm | ⟨hm, hv, hnn⟩⟩ := hc
  · exact ld_glob S hg hm q hdbg
  · exact ld_blt S hg hm hv q hnn hdbg
theorem ps_try_gen (hs : X.stack = X.env :: X.outer) (hf : X.env.frame = some X.env.locals) (hN : X.N.Nodup) (tk : L2N.Takes X Wout)
    (hb : ∀ (W : WX) (pn : List (Addr × Obj)) (xe : Value → Shared → Prop), L2N.Takes (X.tr pn xe) W → PassesOwn (model X.prog X.w) X.A X.env xe → PSs (X.tr pn xe) body (tb W))
    (hh : HdsG X (h₀ :: hds) l) : PS X (.Try body (h₀ :: hds) [] [] pos) (fun D σ H => tb (wGen Wout D l) D σ H) := by
  refine ⟨fun pins s σ H D I h => ?_⟩
  have ok := I.ok
  have hfr : X.A.frames = some (X.env :: X.outer) := by rw [ok.frames, hs]
  refine wpAny_Try_except ?_
  refine wpAny_mono ((hb (wGen Wout D l) (X.pn ++ pins) (fun e s₁ => wpAny (model X.prog X.w) X.A (noteFrame e X.env) (fun _ s₂ => wpAny (model X.prog X.w) X.A (setFlight e none) (fun _ s₃ =>
    wpAny (model X.prog X.w) X.A (handleBy e X.env (h₀ :: hds)) (SP X pins D) X.xe s₃) X.xe s₂) X.xe s₁) (fun u s' xx => ?_) PassesOwn.looking).run [] s σ H D (I.toTry _) h) (fun f s1 hsp => ?_) (fun e s1 he => he)
  · -- the catch
    obtain ⟨a, B, sI, pins', σ', H', cls, d, rfl, J', nb, up, sky, na, os, ag, w⟩ := xx
    have J : Inv X pins σ' H' sI := J'.ofTry ok
    have sky' : Sky B (X.env :: X.outer) a (L2N.Zn cls d) X.env.locals s'.heap := by rw [← hs]; exact sky
    show wpAny (model X.prog X.w) X.A (noteFrame (.ref a) X.env) _ _ _
    refine L2N.Sky.land L2N.Zn.steady hfr hf sky' fun h3 fl3 up3 => ?_
    have notFr : ∀ {h : Heap} {o : Obj} {vs : Array Value}, h.FunFrames B (X.env :: X.outer) → h.get? a = some o → o.data = .fields vs → a ∉ frs (X.env :: X.outer) := fun {h o vs} ff e dd hm => by
      obtain ⟨_, o', e', hnf⟩ := ff.mem hm
      rw [e] at e'; cases e'
      exact hnf _ dd
    have J3 : ∀ {h : Heap}, HandSPX.FlyingZ B (X.env :: X.outer) a (L2N.Zn cls d) h → s'.heap.UpToSlots h → Inv X pins σ' H' { s' with heap := h } := fun {h} fl u => J.landed nb fl.1 (up.trans u) os ag
    have sane : ∀ {h : Heap}, HandSPX.FlyingZ B (X.env :: X.outer) a (L2N.Zn cls d) h → ∀ {o : Obj} {vs : Array Value}, h.get? a = some o → o.data = .fields vs → a ≠ X.env.locals ∧ a ∉ X.fs := fun {h} fl {o vs} he hd => by
      have nfr := notFr fl.2.2.1 he hd
      refine ⟨fun z => nfr (List.mem_filterMap.mpr ⟨X.env, List.mem_cons_self, by rw [hf, z]⟩), fun hm => ?_⟩
      obtain ⟨e, he, q⟩ := List.mem_filterMap.mp hm
      exact nfr (List.mem_filterMap.mpr ⟨e, List.mem_cons_of_mem _ he, q⟩)
    -- the test
    have test : ∀ {e : Expr} {t : Value → Option Bool} {b : Bool} {h : Heap} {Q : Bool → Shared → Prop} {E : Value → Shared → Prop}, TestOk X e t → t cls = some b → HandSPX.FlyingZ B (X.env :: X.outer) a (L2N.Zn cls d) h → s'.heap.UpToSlots h →
        (∀ h', HandSPX.FlyingZ B (X.env :: X.outer) a (L2N.Zn cls d) h' → s'.heap.UpToSlots h' → Q b { s' with heap := h' }) →
        wpAny (model X.prog X.w) (X.A.mark (some (.ref a))) (eval e X.env) (fun c s1 => wpAny (model X.prog X.w) (X.A.mark (some (.ref a))) (excMatches (.ref a) c) Q E s1) E { s' with heap := h } := by
      intro e t b h Q E ht hb1 fl u hq
      obtain ⟨oe3, vs3, he3, hz3, hd3⟩ := fl.there
      obtain ⟨nL, nF⟩ := sane fl he3 hd3
      have S3 := (J3 fl u).suite he3 hd3 na nL nF
      cases ht with
      | @one x c np hc =>
        have LT : PySem.W.Looks (model X.prog X.w) h (typeOf (.ref a)) cls := fun A Q E s k q => wpAny_typeOf_ref (k _ _ he3) (by rw [hz3.1]; exact q)
        have LM := PySem.W.exm_one (M := model X.prog X.w) ((J3 fl u).kIn) LT hb1
        exact names_ld (Y := X.suite a ((a, oe3) :: (X.pn ++ pins))) hc S3 (LM.here (hq h fl u))
      | @two x1 x2 c1 c2 p1 p2 pos k h1 h2 =>
        refine wpAny_Tuple_spliced ?_
        show wpAny _ _ (spliced ((false, eval (.Name x1 p1) X.env) :: backTo pos (starEach [.Name x2 p2] X.env))) _ _ _
        refine Calls.spliced_cons (names_ld (Y := X.suite a ((a, oe3) :: (X.pn ++ pins))) h1 S3 ?_)
        show wpAny _ _ (spliced ((false, eval (.Name x2 p2) X.env) :: backTo pos (starEach [] X.env))) _ _ _
        refine Calls.spliced_cons (names_ld (Y := X.suite a ((a, oe3) :: (X.pn ++ pins))) h2 S3 ?_)
        refine Calls.spliced_nil ?_
        refine ⟨by show 2 ≤ sizeLine; rw [sizeLine_eq]; omega, ?_⟩
        have fl4 := flying_push { cls := .type "tuple", data := .seq [c1, c2].toArray } fl
        have u4 := u.trans (upTo_push h { cls := .type "tuple", data := .seq [c1, c2].toArray })
        have LT : PySem.W.Looks (model X.prog X.w) (h.push { cls := .type "tuple", data := .seq [c1, c2].toArray }) (typeOf (.ref a)) cls := fun A Q E s k q => wpAny_typeOf_ref (k _ _ (Heap.get?_push_of_some _ he3)) (by rw [hz3.1]; exact q)
        have LM := PySem.W.exm_tup2 (M := model X.prog X.w) ((J3 fl4 u4).kIn) LT (Heap.get?_push_size _ rfl) hb1
        exact LM.here (hq _ fl4 u4)
    have go : ∀ {hds' : List ExceptHandler} {l' : List Cl}, HdsG X hds' l' → ∀ {h : Heap}, HandSPX.FlyingZ B (X.env :: X.outer) a (L2N.Zn cls d) h → s'.heap.UpToSlots h → wGen Wout D l' cls d σ' H' →
        wpAny (model X.prog X.w) X.A (handleBy (.ref a) X.env hds') (SP X pins D) X.xe { s' with heap := h } := by
      intro hds' l' hk
      induction hk with
      | nil =>
        intro h fl u w
        refine wpAny_handleBy_nil ?_
        obtain ⟨k1, k2, k3, oe, vs, T, oT, ts', he, hz, hd, h1, hr⟩ := id fl
        unfold PySem.passOn
        refine wpAny_bind (wpAny_field he hd h1 ?_)
        rw [if_neg (show ¬ ((Value.ref T == Value.none) = true) from by simp)]
        have fin : wpAny (model X.prog X.w) X.A (setFlight (.ref a) X.env.frame) (fun _ s4 => wpAny (model X.prog X.w) X.A (throw (.ref a) : Sem Flow) (SP X pins D) X.xe s4) X.xe { s' with heap := h } := by
          rw [hf]
          refine HandSPX.setFlight_upZ fl fun h4 hh4 up4 => wpAny_throw (tk _ _ ?_)
          exact ⟨a, B, sI, pins, σ', H', cls, d, rfl, J, nb, (up.trans u).trans up4, .inr (.inr (by rw [hs]; exact hh4)), na, os, ag, w⟩
        first
          | exact wpAny_bind (wpAny_pure (wpAny_bind fin))
          | exact wpAny_bind fin
      | @plain e t ts b₀ suite pos' hds2 l2 hc hsu r ih =>
        intro h fl u w
        obtain ⟨b, hb1, hyes, hno⟩ := w
        refine wpAny_handleBy_cons (codeAny_handlers_test (test hc hb1 fl u fun h3 fl3 up3 => ?_)) (by intro q; cases q)
        cases b with
        | true =>
          refine codeAny_handlers_suite ?_
          refine HandSPX.lands_againZ fl3 fun h4 fl4 up4 => ?_
          obtain ⟨oe4, vs4, he4, hz4, hd4⟩ := fl4.there
          obtain ⟨nL, nF⟩ := sane fl4 he4 hd4
          have S4 := (J3 fl4 (up3.trans up4)).suite he4 hd4 na nL nF
          refine wpAny_mono ((hsu a oe4 cls d (X.pn ++ pins) hz4 ⟨_, hd4⟩).run [] _ _ H' _ S4 (hyes rfl a na)) (fun f s6 hsp => ?_) (fun _ _ z => False.elim z)
          cases f with
          | next =>
            obtain ⟨σ6, H6, S6, q6⟩ := hsp
            exact ⟨_, _, S6.unsuite ok, q6⟩
          | brk =>
            obtain ⟨σ6, H6, S6, q6⟩ := hsp
            exact ⟨_, _, S6.unsuite ok, q6⟩
          | cont =>
            obtain ⟨σ6, H6, S6, q6⟩ := hsp
            exact ⟨_, _, S6.unsuite ok, q6⟩
          | ret u =>
            obtain ⟨v6, σ6, H6, S6, r6, q6⟩ := hsp
            exact ⟨_, _, _, S6.unsuite ok, r6, q6⟩
        | false =>
          show wpAny _ X.A (handleBy (.ref a) X.env hds2) _ _ _
          exact ih fl3 up3 (hno rfl)
      | @named e t n i ts b₀ suite pos' hds2 l2 hi hln hc hsu r ih =>
        intro h fl u w
        have hloc : Loc X.env.scope n := .inl hln
        obtain ⟨b, hb1, hyes, hno⟩ := w
        refine wpAny_handleBy_cons (codeAny_handlers_test (test hc hb1 fl u fun h3 fl3 up3 => ?_)) (by intro q; cases q)
        cases b with
        | true =>
          refine codeAny_handlers_suite_as ?_
          refine HandSPX.lands_againZ fl3 fun h4 fl4 up4 => ?_
          obtain ⟨oe4, vs4, he4, hz4, hd4⟩ := fl4.there
          obtain ⟨nL, nF⟩ := sane fl4 he4 hd4
          have S4 := (J3 fl4 (up3.trans up4)).suite he4 hd4 na nL nF
          refine store_ok (X := X.suite a ((a, oe4) :: (X.pn ++ pins))) (v := .ref a) S4 hN hi hloc rfl (fun s5 S5 => ?_) (.inr hln)
          refine wpAny_mono ((hsu a oe4 cls d (X.pn ++ pins) hz4 ⟨_, hd4⟩).run [] s5 _ H' _ S5 (hyes rfl a na)) (fun f s6 hsp => ?_) (fun _ _ z => False.elim z)
          have end_ : ∀ {σ6 : St} {H6 : Hp} {Q : Shared → Prop}, Inv (X.suite a ((a, oe4) :: (X.pn ++ pins))) [] σ6 H6 s6 → (∀ s7, Inv X pins (σ6.set i none) H6 s7 → Q s7) →
              wpAny (model X.prog X.w) X.A (do bindName X.env n .none; unbindBehindTheSuite X.env n pos') (fun _ s7 => Q s7) X.xe s6 := fun {σ6 H6 Q} S6 hq => gone_ok (S6.unsuite ok) hN hi hln hq
          cases f with
          | next =>
            obtain ⟨σ6, H6, S6, q6⟩ := hsp
            exact end_ S6 fun s7 J7 => ⟨_, _, J7, q6⟩
          | brk =>
            obtain ⟨σ6, H6, S6, q6⟩ := hsp
            exact end_ S6 fun s7 J7 => ⟨_, _, J7, q6⟩
          | cont =>
            obtain ⟨σ6, H6, S6, q6⟩ := hsp
            exact end_ S6 fun s7 J7 => ⟨_, _, J7, q6⟩
          | ret u =>
            obtain ⟨v6, σ6, H6, S6, r6, q6⟩ := hsp
            exact end_ S6 fun s7 J7 => ⟨_, _, _, J7, r6, q6⟩
        | false =>
          show wpAny _ X.A (handleBy (.ref a) X.env hds2) _ _ _
          exact ih fl3 up3 (hno rfl)
    exact go hh fl3 up3 w
  · cases f with
    | next =>
      obtain ⟨σ', H', J', q⟩ := hsp
      exact wpAny_execs_nil ⟨σ', H', J'.ofTry ok, q⟩
    | brk =>
      obtain ⟨σ', H', J', q⟩ := hsp
      exact ⟨σ', H', J'.ofTry ok, q⟩
    | cont =>
      obtain ⟨σ', H', J', q⟩ := hsp
      exact ⟨σ', H', J'.ofTry ok, q⟩
    | ret u =>
      obtain ⟨v, σ', H', J', r, q⟩ := hsp
      exact ⟨v, σ', H', J'.ofTry ok, r, q⟩
end
end PI
set_option maxHeartbeats 1000000
/-! PISndTh: try with any number of except clauses: soundness. -/
namespace PI
open PySem PySem.Spec PyProof.Rows L2
/-- the suite's wish -/
def teO (G : Ga) (n : Nat) (hw : Xn → Option D) (oi : Option Nat) (a : Addr) (cls : Value) (d : Option Addr) : TE := fun σ H Q => (∀ i, oi = some i → σ[i]? = some (some (.ref a))) ∧ ∃ (x : Xn) (g : Gs) (r : D), cls = .ref (G.ca x.c) ∧ x.c < n ∧ XfH G g H x d ∧ limF false 0 x.fs = true ∧ hw x = some r ∧ ∀ v H', Grow H H' → (∀ g', Is G g' H' r v) → Q v H'
section
variable {X : Cx} {G : Ga} {W : WX} {k n : Nat} {CA CB : Addr} {cx cy : Str} {sub sub2 : Nat → Bool}
theorem suiteO (c : XI X G W k) {hb : EM Fl} {body : List Stmt} (oi : Option Nat) (a : Addr) (oe : Obj) (cls : Value) (d : Option Addr) (pns : List (Addr × Obj)) (hz : L2N.Zn cls d oe) (hf : ∃ vs, oe.data = .fields vs)
    (h : ∀ x : Xn, HotX G x (a, oe) d → x.c < n → XJ (X.suite a ((a, oe) :: pns)) (gaX G x (a, oe) d) W0 → PSsI (X.suite a ((a, oe) :: pns)) (gaX G x (a, oe) d) W0 body hb) :
    PSs (X.suite a ((a, oe) :: pns)) body (tRet (teO G n (hG X.N.length (oi.getD X.N.length) hb) oi a cls d)) := by
  refine ⟨fun pins s σ H D I hh => ?_⟩
  obtain ⟨hσ, x, g0, r, rfl, hlt, hxf, hlim, hw', hQ⟩ := hh
  obtain ⟨hR, e', eb⟩ := hG_mk hw'
  have h1000 := hG_lt hw'
  have cj : XJ (X.suite a ((a, oe) :: pns)) (gaX G x (a, oe) d) W0 :=
    ⟨c.K, c.nd, ⟨c.room.dp, c.room.un⟩, c.gd, fun _ _ x => by obtain ⟨_, _, _, _, _, _, _, _, _, _, _, _, _, _, _, _, z⟩ := x; exact z, PassesOwn.never⟩
  have hx : HotX G x (a, oe) d := ⟨hz, hf⟩
  have hl : σ.length = X.N.length := I.len
  refine (h x hx hlt cj).run pins s σ H D I ⟨⟨fun a => ∃ o, H a = some o, []⟩, (List.replicate X.N.length (none : Option SV)).set (oi.getD X.N.length) (some (.val (.exn x.c x.fs))), [], ?_, ?_⟩
  · have at_ : ∀ {j : Nat} {w : SV}, ((List.replicate X.N.length (none : Option SV)).set (oi.getD X.N.length) (some (.val (.exn x.c x.fs))))[j]? = some (some w) → oi = some j ∧ w = .val (.exn x.c x.fs) := fun {j w} hj => by
      have hjl := (List.getElem?_eq_some_iff.mp hj).1
      rw [List.length_set, List.length_replicate] at hjl
      by_cases e : oi.getD X.N.length = j
      · rw [e, List.getElem?_set_self (by simpa using hjl)] at hj
        cases hj
        refine ⟨?_, rfl⟩
        cases oi with
        | none => exact absurd e (Nat.ne_of_gt hjl)
        | some i => exact congrArg some e
      · rw [List.getElem?_set_ne e, List.getElem?_replicate] at hj
        split at hj <;> cases hj
    refine ⟨⟨fun a h => h, rfl, .nil, fun a h => (nomatch h), fun n a o h1 h2 => by simp at h2⟩, by simp [hl], fun j w hj => ?_, fun j w hj => ?_, fun j j' b w w' hj => ?_⟩
    · obtain ⟨e1, e2⟩ := at_ hj
      cases e2
      refine ⟨.ref a, hσ j e1, ?_⟩
      simp only [Is]
      refine ⟨a, d, rfl, .inl ⟨h1000, rfl, rfl, rfl⟩, ?_⟩
      cases d with
      | none => exact .inl ⟨rfl, hxf⟩
      | some dd =>
        obtain ⟨vfs, e1, e2⟩ := hxf
        exact .inr ⟨dd, vfs, rfl, e1, e2.okR gaX_eq hlim⟩
    · have := (at_ hj).2
      cases this
    · have := (at_ hj).2
      cases this
  · rw [eb]
    intro v H' g' N' R' sv
    have sv : Is (gaX G x (a, oe) d) g' H' r v := sv
    exact hQ v H' (fun b o e => (N'.kZ b ⟨o, e⟩).trans e) fun g2 => sv.okR gaX_eq' hR
/-- a clause's class expression and which classes it catches -/
inductive SubT (X : Cx) (G : Ga) (n : Nat) : Expr → (Value → Option Bool) → (Nat → Bool) → Prop
  | one {x : Str} {CA : Addr} {np : Pos} {sub : Nat → Bool} (hcN : X.mg x = some (.ref CA)) (hsub : SubOk G n CA sub) (hgc : Gl X x := by rfl) (hdc : (x == ("__debug__" : Str)) = false := by decide) :
      SubT X G n (.Name x np) (fun cls => PySem.W.exmOne X.K cls (.ref CA)) sub
  | two {x1 x2 : Str} {C1 C2 : Addr} {p1 p2 pos : Pos} {kk : Nat} {s1 s2 : Nat → Bool} (h1 : X.mg x1 = some (.ref C1)) (hs1 : SubOk G n C1 s1) (h2 : X.mg x2 = some (.ref C2)) (hs2 : SubOk G n C2 s2)
      (hg1 : Gl X x1 := by rfl) (hd1 : (x1 == ("__debug__" : Str)) = false := by decide) (hg2 : Gl X x2 := by rfl) (hd2 : (x2 == ("__debug__" : Str)) = false := by decide) :
      SubT X G n (.Tuple [.Name x1 p1, .Name x2 p2] kk pos) (fun cls => PySem.W.exmAny X.K cls [.ref C1, .ref C2]) (fun j => s1 j || s2 j)
theorem SubT.test {e : Expr} {t : Value → Option Bool} (h : SubT X G n e t sub) : TestOk X e t := by
  cases h with
  | one a b c d => exact .one ⟨c, d, .inl a⟩
  | two a b c d e f g h => exact .two ⟨e, f, .inl a⟩ ⟨g, h, .inl c⟩
theorem SubT.tells {e : Expr} {t : Value → Option Bool} (hK : X.K = G.K) (h : SubT X G n e t sub) {j : Nat} (hj : j < n) : t (.ref (G.ca j)) = some (sub j) := by
  cases h with
  | one a b c d =>
    show PySem.W.exmOne X.K _ _ = _
    rw [hK]; exact b.ok j hj
  | two a b c d =>
    show PySem.W.exmAny X.K _ _ = _
    rw [hK]
    simp only [PySem.W.exmAny, b.ok j hj, d.ok j hj, Bool.or_false]
inductive HxsOk (X : Cx) (G : Ga) (n : Nat) : List ExceptHandler → List Hx → List Cl → Prop
  | nil : HxsOk X G n [] [] []
  | plain {e : Expr} {t : Value → Option Bool} {sub : Nat → Bool} {hb : EM Fl} {b₀ : Stmt} {suite : List Stmt} {pos' : Pos} {hds : List ExceptHandler} {l : List Hx} {cl : List Cl} {N : Nat} (hsub : SubT X G n e t sub)
      (h : ∀ (a : Addr) (oe : Obj) (d : Option Addr) (pns : List (Addr × Obj)) (x : Xn), HotX G x (a, oe) d → x.c < n → XJ (X.suite a ((a, oe) :: pns)) (gaX G x (a, oe) d) W0 → PSsI (X.suite a ((a, oe) :: pns)) (gaX G x (a, oe) d) W0 (b₀ :: suite) hb)
      (r : HxsOk X G n hds l cl) (hN : X.N.length = N := by rfl) :
      HxsOk X G n (.ExceptHandler (some e) none (b₀ :: suite) pos' :: hds) (⟨sub, none, hG N N hb⟩ :: l) (⟨t, none, fun a cls d => tRet (teO G n (hG N N hb) none a cls d)⟩ :: cl)
  | named {e : Expr} {t : Value → Option Bool} {sub : Nat → Bool} {hb : EM Fl} {b₀ : Stmt} {suite : List Stmt} {pos' : Pos} {hds : List ExceptHandler} {l : List Hx} {cl : List Cl} {N i : Nat} {nm : Str} (hsub : SubT X G n e t sub)
      (h : ∀ (a : Addr) (oe : Obj) (d : Option Addr) (pns : List (Addr × Obj)) (x : Xn), HotX G x (a, oe) d → x.c < n → XJ (X.suite a ((a, oe) :: pns)) (gaX G x (a, oe) d) W0 → PSsI (X.suite a ((a, oe) :: pns)) (gaX G x (a, oe) d) W0 (b₀ :: suite) hb)
      (r : HxsOk X G n hds l cl) (hN : X.N.length = N := by rfl) (hi : X.N[i]? = some nm := by rfl) (hln : X.env.kindOf nm = some .local := by rfl) :
      HxsOk X G n (.ExceptHandler (some e) (some nm) (b₀ :: suite) pos' :: hds) (⟨sub, some i, hG N i hb⟩ :: l) (⟨t, some i, fun a cls d => tRet (teO G n (hG N i hb) (some i) a cls d)⟩ :: cl)
theorem HxsOk.hds (c : XI X G W k) {hds : List ExceptHandler} {l : List Hx} {cl : List Cl} (h : HxsOk X G n hds l cl) : HdsG X hds cl := by
  induction h with
  | nil => exact .nil
  | plain hsub h r hN ih =>
    subst hN
    exact .plain hsub.test (fun a oe cls d pns hz hd => suiteO c none a oe cls d pns hz hd fun x hx hlt cj => h a oe d pns x hx hlt cj) ih
  | @named e t sub hb b₀ suite pos' hds l cl N i nm hsub h r hN hi hln ih =>
    subst hN
    exact .named hi hln hsub.test (fun a oe cls d pns hz hd => suiteO c (some i) a oe cls d pns hz hd fun x hx hlt cj => h a oe d pns x hx hlt cj) ih
theorem HxsOk.wish (c : XI X G W k) {hds : List ExceptHandler} {l : List Hx} {cl : List Cl} (h : HxsOk X G n hds l cl) {x : Xn} (hlt : x.c < n) {g g' : Gs} {H H' : Hp} {De : Ends} {σ' : St} {e1 : Env} {M1 : MH} {d : Option Addr} (N' : Next g H g' H') (R' : Rel G g' σ' H' e1 M1)
    (xd : XfH G g' H' x d) (q : PostS G W g H De (tryP x e1 M1 l)) : wGen W De cl (.ref (G.ca x.c)) d σ' H' := by
  have hres : ∀ {w : Xn → Option D} {oi : Option Nat} {y : Res Fl}, PostS G W g H De (if (limF false 0 x.fs && okO oi e1) = true then (match w x with
      | some d => .ok (.ret (.val d)) e1 M1
      | none => .stuck) else .stuck) → ∀ a, H' a = none → tRet (teO G n w oi a (.ref (G.ca x.c)) d) (endO oi De) (putO oi σ' (some (.ref a))) H' := by
    intro w oi y q a ha
    by_cases hfe : (limF false 0 x.fs && okO oi e1) = true
    case neg => rw [if_neg hfe] at q; exact False.elim q
    rw [if_pos hfe] at q
    obtain ⟨hf1, hf2⟩ := Bool.and_eq_true_iff.mp hfe
    cases hh : w x with
    | none => rw [hh] at q; exact False.elim q
    | some r =>
      rw [hh] at q
      have hrt : (endO oi De).rt = De.rt := by cases oi <;> rfl
      refine ⟨fun i hi => ?_, x, g', r, rfl, hlt, xd, hf1, hh, fun v H2 w is => ?_⟩
      · subst hi
        have il : i < σ'.length := by
          rw [← R'.el]
          exact of_decide_eq_true hf2
        exact List.getElem?_set_self il
      · have q' := q v H2 g' (N'.trans (R'.toHRel.grows w)) (R'.grow w).toHRel (is g')
        rw [← hrt] at q'
        exact q'
  induction h with
  | nil => exact q σ' H' g' _ d N' R' ⟨rfl, by cases d <;> exact xd⟩
  | @plain e t sub hb b₀ suite pos' hds l cl N hsub h r hN ih =>
    refine ⟨sub x.c, hsub.tells c.K hlt, fun hsb => ?_, fun hsb => ?_⟩
    · have q : PostS G W g H De (if sub x.c = true then _ else _) := q
      rw [if_pos hsb] at q
      exact hres (y := .stuck) q
    · have q : PostS G W g H De (if sub x.c = true then _ else tryP x e1 M1 l) := q
      rw [if_neg (by rw [hsb]; exact Bool.false_ne_true)] at q
      exact ih q
  | @named e t sub hb b₀ suite pos' hds l cl N i nm hsub h r hN hi hln ih =>
    refine ⟨sub x.c, hsub.tells c.K hlt, fun hsb => ?_, fun hsb => ?_⟩
    · have q : PostS G W g H De (if sub x.c = true then _ else _) := q
      rw [if_pos hsb] at q
      exact hres (y := .stuck) q
    · have q : PostS G W g H De (if sub x.c = true then _ else tryP x e1 M1 l) := q
      rw [if_neg (by rw [hsb]; exact Bool.false_ne_true)] at q
      exact ih q
/-- try: body, any number of except clauses -/
theorem okTryG (c : XI X G W k) {m : EM Fl} {body : List Stmt} {h₀ : ExceptHandler} {hds : List ExceptHandler} {l : List Hx} {cl : List Cl} {pos : Pos} (h : HxsOk X G n (h₀ :: hds) l cl)
    (hbd : ∀ (pns : List (Addr × Obj)) (xe : Value → Shared → Prop) (W' : WX), XI (X.tr pns xe) G W' k → PSsI (X.tr pns xe) G W' body m)
    (hs : X.stack = X.env :: X.outer := by rfl) (hf : X.env.frame = some X.env.locals := by rfl) :
    PSI X G W (.Try body (h₀ :: hds) [] [] pos) (sTryG n l m) := by
  refine ⟨fun pins s σ H D I ⟨g, e0, M, R, q⟩ => ?_⟩
  have tb := ps_try_gen (pos := pos) (tb := fun W' => tS G W' m) (Wout := W) hs hf c.nd c.tk (fun W' pns xe tk po => hbd pns xe W' (c.tr tk po)) (h.hds c)
  refine tb.run pins s σ H D I ⟨g, e0, M, R, ?_⟩
  have q : PostS G W g H D (tryG n l (m e0 M)) := q
  cases hr : m e0 M with
  | stuck => rw [hr] at q; exact q
  | ok fl e1 M1 =>
    rw [hr] at q
    cases fl <;> exact q
  | err x e1 M1 =>
    rw [hr] at q
    have q : PostS G W g H D (if x.c < n then tryP x e1 M1 l else .stuck) := q
    by_cases hlt : x.c < n
    · rw [if_pos hlt] at q
      intro σ' H' g' cls d N' R' xi
      obtain ⟨ec, xd⟩ := xi
      subst ec
      exact h.wish c hlt N' R' (by cases d <;> exact xd) q
    · rw [if_neg hlt] at q
      exact False.elim q
end
end PI
set_option maxHeartbeats 1000000
/-! PISndTi: soundness of PIBor. -/
namespace PI
open PySem PySem.Spec PyProof.Rows L2
end PI
set_option maxHeartbeats 1000000
/-! PISndTj: dicts compared; max of a dict; is None as a value. -/
namespace PI
open PySem PySem.Spec PyProof.Rows L2
end PI
set_option maxHeartbeats 1000000
/-! PISndIv: `x is not None` as a value; range(a, b, -1). -/
namespace PI
open PySem PySem.Spec PyProof.Rows L2
end PI
set_option maxHeartbeats 1000000
/-! PISndSm: sum of a tuple. -/
namespace PI
open PySem PySem.Spec PyProof.Rows L2
end PI
set_option maxHeartbeats 1000000
/-! PISndUp: d.update(d2). -/
namespace PI
open PySem PySem.Spec PyProof.Rows L2
end PI
/-! PISndZs: zip of a list and a text. -/
namespace PI
open PySem PySem.Spec PyProof.Rows L2
end PI
/-! PISndRp: a op b.replace(c, z), where a surely gives a token out. -/
namespace PI
open PySem PySem.Spec PyProof.Rows L2
/-- a token is given out on the way -/
def UpW {α : Type} (M : Model) (t : Sem α) : Prop := ∀ (Γ : PySem.Ctx) (Q : α → Pos → Shared → Prop) (E : Value → Pos → Shared → Prop) (p : Pos) (s : Shared), Sem.wp M Γ t Q E p s → Sem.wp M Γ t (fun a p' s' => s.toks + 1 ≤ s'.toks ∧ Q a p' s') E p s
section
variable {α β : Type} {M : Model}
theorem UpW.bind1 {m : Sem α} (h : UpW M m) (f : α → Sem β) : UpW M (m >>= f) := by
  intro Γ Q E p s q
  rw [Sem.wp_bind'] at q ⊢
  refine Sem.wp_mono M Γ m (fun a p' s' k => ?_) (fun _ _ _ e => e) p s (h Γ _ E p s q)
  exact Sem.wp_mono M Γ _ (fun b p2 s2 z => z) (fun _ _ _ e => e.2) p' s' (Sem.wp_toks M Γ (s.toks + 1) (f a) Q E p' s' k.1 k.2)
theorem UpW.hold {vs : List Value} {m : Sem α} (h : UpW M m) : UpW M (holding vs m) := by
  intro Γ Q E p s q
  rw [Sem.wp_holding] at q ⊢
  exact h Γ Q E p s q
theorem UpW.call {pos : Pos} {f : Value} {first : List Value} {x : Sem Value} (h : UpW M x) : UpW M (callWith pos f first [(false, x)] []) := by
  unfold callWith
  refine UpW.bind1 (UpW.hold ?_) _
  unfold evalArgs
  refine UpW.bind1 ?_ _
  refine UpW.bind1 ?_ _
  exact h
theorem UpW.any {A : Around} {t : Sem α} (h : UpW M t) {Q : α → Shared → Prop} {E : Value → Shared → Prop} {s : Shared} (q : wpAny M A t Q E s) : wpAny M A t (fun a s' => s.toks + 1 ≤ s'.toks ∧ Q a s') E s :=
  fun Γ p hΓ => h Γ _ _ p s (q Γ p hΓ)
end
end PI
/-! PISndC0: a def called with nothing. -/
namespace PI
open PySem PySem.Spec PyProof.Rows L2
section
variable {X : Cx} {G : Ga} {W : WX} {k j : Nat} {pos p : Pos} {x : Str} {ps : List Str} {sem : FT} {f : Addr} {fd : FuncData}
theorem okCallB0 (c : XI X G W k) (h : Kn X.prog X.w G X.mg X.base j x ps sem f fd) {dd : List D} (b : Bd G fd ps dd) (hj : j ≤ k := by omega) (hlen : dd.length = ps.length := by rfl) (hg : Gl X x := by rfl) (hdb : (x == ("__debug__" : Str)) = false := by decide) :
    PEI X G W (.Call (.Name x p) [] [] pos) (eCallD sem dd eNil) := by
  obtain ⟨dvs, dv, b1, b2, b3⟩ := b
  rw [← c.K] at b1
  exact okCallX0 c (calF (h.fn.mono hj) c) h.m (by rw [c.K]; exact h.kp) b1 b2 b3 hlen hg hdb
end
end PI
set_option maxHeartbeats 1000000
/-! PISndXv: exceptions as values: made, asked for their fields. -/
namespace PI
open PySem PySem.Spec PyProof.Rows L2
section
variable {X : Cx} {G : Ga} {W : WX} {k c : Nat} {f : Addr} {fd : FuncData} {fl : List Nat} {ps : List Str} {pos p pos' : Pos} {x : Str} {a : Expr} {es : List Expr}
abbrev xT : HO := .ext fun _ => True
theorem ep_of_mkp {pins : List (Addr × Obj)} {σ : St} {Q2 : VK} {u : Value} {s' : Shared}
    (h : L2N.MkP X pins σ (fun cls d H' => ∀ (a : Addr) (o : Obj), H' a = none → o.cls = cls → o.dict = d → (∃ vs, o.data = .fields vs) → Q2 (.ref a) (upd H' a (.frz o xT))) u s') : EP X pins σ Q2 u s' := by
  obtain ⟨a, oe, vs, sI, H', cls, d, rfl, J, k, hne, ha, hz, hd, h1, na, os, ag, r, q⟩ := h
  have J2 := J.laidN (t' := s'.toks) (h' := s'.heap) (o := .frz oe xT) k hne na ⟨ha, trivial, ⟨oe, ha⟩, fun _ _ _ _ => trivial⟩
  have J3 : Inv X pins σ (upd H' a (.frz oe xT)) s' := ⟨J2.ok, os.trans J2.os, ag, J2.base, J2.loc, J2.cell, J2.free, J2.freeC, J2.pin, J2.hok, J2.len⟩
  exact ⟨.ref a, _, J3, rfl, q a oe na hz.1 hz.2.1 ⟨vs, hd⟩⟩
def BMkE (K : PySem.W.Frag) (fd : FuncData) (ps : List Str) : Shared → Args → List Value → Prop := fun _ args us => args.pos.length ≤ 1000 ∧ ∀ (s' : Shared) (y : Addr), K.In s'.heap → BindsTo s' fd ⟨.ref y :: args.pos, args.kw⟩ (ps.zip (.ref y :: us))
/-- a class whose __init__ stores its parameters, called: an exception as a value -/
theorem calE (c0 : XI X G W k) (h : KnE X.prog X.w G X.mg X.base c x fl ps f fd) (hj : 2 ≤ k) : CalX X G W (G.ca c) fl.length (mkE c fl) (BMkE X.K fd ps) := fun {pins σ H s Q args us vs} I hb r hsp => by
  obtain ⟨g, ds, M, R, hz, q, hn, post⟩ := hsp
  have e : mkE c fl ds M = .ok (.val (.exn (1000 + c) (fl.zip ds))) M := if_pos hn
  rw [e] at post
  have hl : vs.length = fl.length := by rw [← q.length]; exact hn
  refine wpAny_mono (mkE_runK c0 h (Q := fun cls d H' => ∀ (a : Addr) (o : Obj), H' a = none → o.cls = cls → o.dict = d → (∃ vs, o.data = .fields vs) → Q (.ref a) (upd H' a (.frz o xT))) I hb.2 r hb.1 hl ?_ hj) (fun u s1 hu => ep_of_mkp hu) fun _ _ z => z
  intro d H' hd1 e2 sm w a o na h1 h2 h3
  have w2 : Grow H (upd H' a (.frz o xT)) := w.trans (Grow.upd na)
  have N := R.grows w2
  have R2 := R.grow w2
  have hda : d ≠ a := fun z => by rw [z, na] at e2; cases e2
  refine post (.ref a) _ g N R2 ?_
  show Is G g _ (.exn (1000 + c) (fl.zip ds)) (.ref a)
  simp only [Is]
  refine ⟨a, some d, rfl, .inr ⟨by omega, o, xT, upd_same, by rw [show 1000 + c - 1000 = c by omega]; exact h1, h2, h3⟩, .inr ⟨d, _, rfl, by rw [upd_ne hda]; exact e2, ?_⟩⟩
  refine lookup_zip_rev h.nd (q.next N) hn _ fun f y hf => ?_
  have nd2 : ((((fl.map G.fld).zip vs).reverse).map (·.1)).Nodup := by
    rw [List.map_reverse, map_fst_zip' (by rw [hl, List.length_map])]
    exact (List.reverse_perm _).nodup_iff.mpr h.nd
  exact lookup_nodup nd2 (List.mem_reverse.mpr hf)
theorem mkEL_runK (c0 : XI X G W k) (h : KnEL X.prog X.w G X.mg X.base c x fl ps f fd) {pins : List (Addr × Obj)} {σ : St} {H : Hp} {s : Shared} {us ys : List Value} {vs : List V} {kw : List (Str × Value)} {Q : XK} (I : Inv X pins σ H s)
    (hb : ∀ (s' : Shared) (y : Addr), X.K.In s'.heap → BindsTo s' fd ⟨.ref y :: us, kw⟩ (ps.zip (.ref y :: ys))) (r : Vals vs ys) (hn : us.length ≤ 1000)
    (hl : vs.length = fl.length) (q : ∀ d H', H d = none → H' d = some (.xd ((fl.map G.fld).zip vs).reverse) → (∀ b, b ≠ d → H b = none ∨ H' b = H b) → Grow H H' → Q (.ref (G.ca c)) (some d) H') (hj : 2 ≤ k) :
    wpAny (model X.prog X.w) X.A (call (.ref (G.ca c)) us kw) (L2N.MkP X pins σ Q) X.xe s := by
  obtain ⟨_, hT, hno, hini, hty, hfn, _, hln⟩ := h
  rw [← c0.K] at hT hini hty hfn hno
  obtain ⟨nm, qn, N, bs, bm, sn, sub, ab, col, dd, k0, k1, k2, k3, k5, hC, hbm⟩ := hT.cls
  obtain ⟨hp, gg, dr, tk, os⟩ := s
  have hsz : hp.objs.size ≤ hp.objs.size + 1 := Nat.le_succ _
  have hnn : H (hp.objs.size + 1) = none := I.hok.fresh hsz
  have kk : ∀ b o, hp.get? b = some o → ((hp.push (PySem.W.kdv_tup us)).push (PySem.HandSPX.excO (G.ca c) hp.objs.size)).get? b = some o := fun b o e => Heap.get?_push_of_some _ (Heap.get?_push_of_some _ e)
  have hget : ((hp.push (PySem.W.kdv_tup us)).push (PySem.HandSPX.excO (G.ca c) hp.objs.size)).get? (hp.objs.size + 1) = some (PySem.HandSPX.excO (G.ca c) hp.objs.size) := by
    have := Heap.get?_push_size (hp.push (PySem.W.kdv_tup us)) (o := PySem.HandSPX.excO (G.ca c) hp.objs.size) rfl
    rwa [Heap.size_push] at this
  have I2 : Inv X pins σ (upd H (hp.objs.size + 1) (exo (hp.objs.size + 1) (G.ca c) none)) ⟨(hp.push (PySem.W.kdv_tup us)).push (PySem.HandSPX.excO (G.ca c) hp.objs.size), gg, dr, tk, os⟩ :=
    I.laid (t' := tk) (a := hp.objs.size + 1) (o := exo (hp.objs.size + 1) (G.ca c) none) (h' := (hp.push (PySem.W.kdv_tup us)).push (PySem.HandSPX.excO (G.ca c) hp.objs.size)) kk hsz (exo_ok hget)
  have r2 : Vals (V.ref (hp.objs.size + 1) :: vs) (Value.ref (hp.objs.size + 1) :: ys) := .cons rfl r
  have hus : us.length ≤ sizeLine := by rw [sizeLine_eq]; omega
  have hsp : spXL X.K (G.ca c) (fl.map G.fld) (V.ref (hp.objs.size + 1) :: vs) (upd H (hp.objs.size + 1) (exo (hp.objs.size + 1) (G.ca c) none)) (fun v H2 => v = .non ∧ ∃ d, H2 (hp.objs.size + 1) = some (exo (hp.objs.size + 1) (G.ca c) (some d)) ∧ H2 d = some (exd d ((fl.map G.fld).zip vs).reverse) ∧ H d = none ∧
      ∀ b, b ≠ hp.objs.size + 1 → b ≠ d → H2 b = H b) (fun _ _ _ => False) := by
    refine ⟨_, _, rfl, by rw [List.length_map]; exact hl, hT, fun z hz => ?_, upd_same, fun H' d e1 e2 e3 e4 => ⟨rfl, d, e1, e2, ?_, fun b h1 h2 => by rw [e4 b h1 h2, upd_ne h1]⟩⟩
    · obtain ⟨i, hi, rfl⟩ := List.mem_map.mp hz
      exact hno i hi
    · by_cases hda : d = hp.objs.size + 1
      · subst hda; exact hnn
      · rwa [upd_ne hda] at e3
  refine wpAny_call (PySem.KX.call_ownK PySem.F.excBase_LookupError (fun Y => PySem.W.excTail_contains Y bm hbm) (I.kIn _ _ hC) (PySem.W.looks_findIn I.kIn hini) (fun self => PySem.W.bind_fn I.kIn self hty) hus
    (codeAny_mono (hfn.run _ X.stack _ _ ⟨Value.ref (hp.objs.size + 1) :: us, kw⟩ (Value.ref (hp.objs.size + 1) :: ys) _ _ (fun _ _ _ => False) ((c0.mono hj).roomC.make (G.ca c) us kw) (I2.env0.make (G.ca c) us kw) (hb _ (hp.objs.size + 1) I2.kIn) r2 hsp) fun r s' hq' => ?_))
  cases r with
  | error er => exact pass0 pins σ _ _ er s' I2 hq'
  | ok fl' =>
    cases fl' with
    | ret u =>
      obtain ⟨v, H2, os2, bare2, un2, hok2, rv, ev, d, ea, ed, hd1, same⟩ := hq'
      subst ev
      obtain ⟨h2, g2, d2, t2, os'⟩ := s'
      obtain ⟨t0, Gh, J, kG, ge, hoe, na⟩ := mk_end0 (d2 := d2) (t2 := t2) I hsz kk un2 hok2 os2 bare2 ea ed hd1
      have hda : d ≠ hp.objs.size + 1 := fun z => by
        rw [z] at ed
        rw [ea] at ed
        have z2 := Option.some.inj ed
        have z3 := na
        rw [← z, upd_same] at z3
        cases z3
      refine ⟨rv, ⟨hp.objs.size + 1, _, _, ⟨Gh, g2, d2, t2, os'⟩, _, .ref (G.ca c), some d, rfl, J, kG, ge, hoe, ⟨rfl, rfl, fun vs hv => ?_⟩, rfl, rfl, na, rfl, bare2, raises_own hT.exC hT.tyC, q d _ hd1 upd_same (fun b hbd => ?_) fun b o hb => ?_⟩⟩
      · cases hv
        rfl
      · rw [upd_ne hbd]
        by_cases hba : b = hp.objs.size + 1
        · subst hba; exact .inl hnn
        · rw [del_ne hba]
          exact .inr (same b hba hbd)
      · have hbd : b ≠ d := ne_of_none hb hd1
        have hba : b ≠ hp.objs.size + 1 := ne_of_none hb hnn
        rw [upd_ne hbd, del_ne hba, same b hba hbd]
        exact hb
    | next => exact False.elim hq'
    | brk => exact False.elim hq'
    | cont => exact False.elim hq'
theorem calEL (c0 : XI X G W k) (h : KnEL X.prog X.w G X.mg X.base c x fl ps f fd) (hj : 2 ≤ k) : CalX X G W (G.ca c) fl.length (mkE c fl) (BMkE X.K fd ps) := fun {pins σ H s Q args us vs} I hb r hsp => by
  obtain ⟨g, ds, M, R, hz, q, hn, post⟩ := hsp
  have e : mkE c fl ds M = .ok (.val (.exn (1000 + c) (fl.zip ds))) M := if_pos hn
  rw [e] at post
  have hl : vs.length = fl.length := by rw [← q.length]; exact hn
  refine wpAny_mono (mkEL_runK c0 h (Q := fun cls d H' => ∀ (a : Addr) (o : Obj), H' a = none → o.cls = cls → o.dict = d → (∃ vs, o.data = .fields vs) → Q (.ref a) (upd H' a (.frz o xT))) I hb.2 r hb.1 hl ?_ hj) (fun u s1 hu => ep_of_mkp hu) fun _ _ z => z
  intro d H' hd1 e2 sm w a o na h1 h2 h3
  have w2 : Grow H (upd H' a (.frz o xT)) := w.trans (Grow.upd na)
  have N := R.grows w2
  have R2 := R.grow w2
  have hda : d ≠ a := fun z => by rw [z, na] at e2; cases e2
  refine post (.ref a) _ g N R2 ?_
  show Is G g _ (.exn (1000 + c) (fl.zip ds)) (.ref a)
  simp only [Is]
  refine ⟨a, some d, rfl, .inr ⟨by omega, o, xT, upd_same, by rw [show 1000 + c - 1000 = c by omega]; exact h1, h2, h3⟩, .inr ⟨d, _, rfl, by rw [upd_ne hda]; exact e2, ?_⟩⟩
  refine lookup_zip_rev h.nd (q.next N) hn _ fun f y hf => ?_
  have nd2 : ((((fl.map G.fld).zip vs).reverse).map (·.1)).Nodup := by
    rw [List.map_reverse, map_fst_zip' (by rw [hl, List.length_map])]
    exact (List.reverse_perm _).nodup_iff.mpr h.nd
  exact lookup_nodup nd2 (List.mem_reverse.mpr hf)
/-- an exception class that makes values -/
structure KnEV (X : Cx) (G : Ga) (W : WX) (c : Nat) (x : Str) (fl : List Nat) (ps : List Str) (fd : FuncData) : Prop where
  C : CalX X G W (G.ca c) fl.length (mkE c fl) (BMkE X.K fd ps)
  m : X.mg x = some (.ref (G.ca c))
  kp : PySem.W.keepIn X.K (.ref (G.ca c)) = true
theorem KnEV.ofE (c0 : XI X G W k) (h : KnE X.prog X.w G X.mg X.base c x fl ps f fd) (hj : 2 ≤ k := by omega) : KnEV X G W c x fl ps fd := ⟨calE c0 h hj, h.m, by rw [c0.K]; exact h.T.kC⟩
theorem KnEV.ofL (c0 : XI X G W k) (h : KnEL X.prog X.w G X.mg X.base c x fl ps f fd) (hj : 2 ≤ k := by omega) : KnEV X G W c x fl ps fd := ⟨calEL c0 h hj, h.m, by rw [c0.K]; exact h.T.kC⟩
/-- C(e, ..) -/
theorem okNewE (c0 : XI X G W k) (h : KnEV X G W c x fl ps fd) {dd : List PI.D} (b : Bd G fd ps dd) {m : EM (List PI.D)} (ha : PAI X G W (a :: es) m) (hl : LenIs m (a :: es).length) (hlen : (a :: es).length + dd.length = fl.length := by rfl) (hfew : Nat.ble (a :: es).length 1000 = true := by rfl)
    (hps : ps.length = fl.length + 1 := by rfl)
    (hg : Gl X x := by rfl) (hdb : (x == ("__debug__" : Str)) = false := by decide) (he : starEach (a :: es) X.env = (false, eval a X.env) :: starEach es X.env := by rfl) (hpl : (backTo pos (starEach es X.env)).any (·.1) = false := by rfl) :
    PEI X G W (.Call (.Name x p) (a :: es) [] pos) (eCallD (mkE c fl) dd m) := by
  obtain ⟨dvs, dv, b1, b2, b3⟩ := b
  rw [← c0.K] at b1
  refine okCallX c0 h.C h.m h.kp (fun s us hK hu => ⟨?_, fun s' y hK' => ?_⟩) b2 b3 ha hl hlen hg hdb he hpl
  · show us.length ≤ 1000
    have := b2.length
    have hdl : dv.length = dd.length := by rw [← IsL.length (b3 ⟨fun _ => False, []⟩ (fun _ => none))]
    rw [List.length_append] at hu
    have h1 : us.length = (a :: es).length := by omega
    rw [h1]
    exact Nat.le_of_ble_eq_true hfew
  · have := b1 s' (.ref y :: us) hK' (by rw [List.cons_append, List.length_cons, hu, hps])
    rw [List.cons_append] at this
    exact this
theorem okNewE1 (c0 : XI X G W k) (h : KnEV X G W c x fl ps fd) {dd : List PI.D} (b : Bd G fd ps dd) (hlen : dd.length = fl.length := by rfl) (hps : ps.length = fl.length + 1 := by rfl)
    (hg : Gl X x := by rfl) (hdb : (x == ("__debug__" : Str)) = false := by decide) : PEI X G W (.Call (.Name x p) [] [] pos) (eCallD (mkE c fl) dd eNil) := by
  obtain ⟨dvs, dv, b1, b2, b3⟩ := b
  rw [← c0.K] at b1
  refine okCallX0 c0 h.C h.m h.kp (fun s us hK hu => ⟨?_, fun s' y hK' => ?_⟩) b2 b3 hlen hg hdb
  · show us.length ≤ 1000
    have := b2.length
    have hdl : dv.length = dd.length := by rw [← IsL.length (b3 ⟨fun _ => False, []⟩ (fun _ => none))]
    rw [List.length_append] at hu
    omega
  · have := b1 s' (.ref y :: us) hK' (by rw [List.cons_append, List.length_cons, hu, hps])
    rw [List.cons_append] at this
    exact this
/-- C(e, .., k = v) -/
theorem okNewEK (c0 : XI X G W k) (h : KnEV X G W c x fl ps fd) {n : Nat} {dd : List PI.D} {ks : List Str} {ss ss' : List Src} (b : KwI G fd ps (n + 1) ks ss' dd) {m mk : EM (List PI.D)} {kws : List Keyword} (ha : PAI X G W (a :: es) m) (hkw : PKI X G W kws mk)
    (hln : LenIs m n) (hlk : LenIs mk ks.length) (hlen : ∀ (ds zs : List PI.D), ds.length = n → zs.length = ks.length → (pickL ss ds dd zs).length = fl.length) (hup : ss' = upS ss := by rfl) (hfew : Nat.ble n 1000 = true := by rfl)
    (hall : (backToKw pos (keywordEach kws X.env)).all (·.1.isSome) = true := by rfl) (hks : (backToKw pos (keywordEach kws X.env)).filterMap (·.1) = ks := by rfl)
    (hg : Gl X x := by rfl) (hdb : (x == ("__debug__" : Str)) = false := by decide) (he : starEach (a :: es) X.env = (false, eval a X.env) :: starEach es X.env := by rfl)
    (hpl : ((backTo pos (starEach (a :: es) X.env)).any (·.1) || (backToKw pos (keywordEach kws X.env)).any (·.1.isNone)) = false := by rfl) :
    PEI X G W (.Call (.Name x p) (a :: es) kws pos) (eCallK (mkE c fl) ss dd m mk) := by
  subst hup
  obtain ⟨dv, its, b1, b2⟩ := b
  rw [← c0.K] at b1
  refine okCallKX (its := its) c0 h.C h.m h.kp (fun s us ws hK hu hw => ⟨?_, fun s' y hK' => ?_⟩) (fun {vs us zs ws} r rz => ?_) b2 ha hkw hln hlk hlen hall hks hg hdb he hpl
  · show us.length ≤ 1000
    rw [hu]
    exact Nat.le_of_ble_eq_true hfew
  · have := b1.to s' (.ref y :: us) ws hK' (by rw [List.length_cons, hu]) hw
    simp only [pickL_up] at this
    exact this
  · have := b1.rel (vs := .ref 0 :: vs) (us := .ref 0 :: us) (.cons rfl r) rz
    simp only [pickL_up] at this
    exact vals_tail this
/-- C(k = v, ..) -/
theorem okNewEK0 (c0 : XI X G W k) (h : KnEV X G W c x fl ps fd) {dd : List PI.D} {ks : List Str} {ss ss' : List Src} (b : KwI G fd ps 1 ks ss' dd) {mk : EM (List PI.D)} {kws : List Keyword} (hkw : PKI X G W kws mk)
    (hlk : LenIs mk ks.length) (hlen : ∀ (ds zs : List PI.D), ds.length = 0 → zs.length = ks.length → (pickL ss ds dd zs).length = fl.length) (hup : ss' = upS ss := by rfl)
    (hall : (backToKw pos (keywordEach kws X.env)).all (·.1.isSome) = true := by rfl) (hks : (backToKw pos (keywordEach kws X.env)).filterMap (·.1) = ks := by rfl)
    (hg : Gl X x := by rfl) (hdb : (x == ("__debug__" : Str)) = false := by decide)
    (hpl : ((backTo pos (starEach [] X.env)).any (·.1) || (backToKw pos (keywordEach kws X.env)).any (·.1.isNone)) = false := by rfl) :
    PEI X G W (.Call (.Name x p) [] kws pos) (eCallK (mkE c fl) ss dd eNil mk) := by
  subst hup
  obtain ⟨dv, its, b1, b2⟩ := b
  rw [← c0.K] at b1
  refine okCallKX0 (its := its) c0 h.C h.m h.kp (fun s us ws hK hu hw => ⟨?_, fun s' y hK' => ?_⟩) (fun {vs us zs ws} r rz => ?_) b2 hkw hlk hlen hall hks hg hdb hpl
  · show us.length ≤ 1000
    omega
  · have := b1.to s' (.ref y :: us) ws hK' (by rw [List.length_cons, hu]) hw
    simp only [pickL_up] at this
    exact this
  · have := b1.rel (vs := .ref 0 :: vs) (us := .ref 0 :: us) (.cons rfl r) rz
    simp only [pickL_up] at this
    exact vals_tail this
/-- C(), a class without an own __init__ -/
theorem okNewE0 (c0 : XI X G W k) (n : Nat) (E : ExcR X.K (G.ca n)) (gC : X.mg x = some (.ref (G.ca n))) (hg : Gl X x := by rfl)
    (hdb : (x == ("__debug__" : Str)) = false := by decide) : PEI X G W (.Call (.Name x p) [] [] pos) (eCallD (mkE n []) [] eNil) := by
  refine ⟨fun pins s σ H Q I ⟨g, e, M, R, h⟩ => ?_⟩
  refine wpAny_mono (pmk_own0 PySem.F.excBase_ValueError E.q gC E.kp (raises_own E.sb E.ty) hg hdb pins s σ H (fun cls d H' => ∀ (a : Addr) (o : Obj), H' a = none → o.cls = cls → o.dict = d → (∃ vs, o.data = .fields vs) → Q (.ref a) (upd H' a (.frz o xT))) I ?_) (fun u s1 hu => ep_of_mkp hu) fun _ _ z => z
  intro a o na h1 h2 h3
  have w2 : Grow H (upd H a (.frz o xT)) := Grow.upd na
  have N := R.toHRel.grows w2
  have h : ∀ (v : V) (H' : Hp) (g' : Gs), Next g H g' H' → Rel G g' σ H' e M → SVIs G g' H' σ e v (.val (.exn (1000 + n) [])) → Q v H' := h
  refine h (.ref a) _ g N (R.grow w2) ?_
  show Is G g _ (.exn (1000 + n) []) (.ref a)
  simp only [Is]
  exact ⟨a, none, rfl, .inr ⟨by omega, o, xT, upd_same, by rw [show 1000 + n - 1000 = n by omega]; exact h1, h2, h3⟩, .inl ⟨rfl, trivial⟩⟩
/-- a field of one -/
theorem okXv {n i : Nat} {f : Str} (c : XJ X G W) (F : XfOk G n i f) {o : Expr} {m : EM PV} (ho : PPI X G W o m) (hb : attributeBase o f X.env (eval o X.env) = eval o X.env := by rfl) : PEI X G W (.Attribute o f pos) (e1 (fXv n i) m) := by
  refine ⟨fun pins s σ H Q I ⟨g, e, M, R, h⟩ => ?_⟩
  have h2 := PostR.bind h
  refine attr_of hb (thn (ho.run pins s σ H (fun v H1 => ∃ g1 e1 M1 p1, PVIs G g1 H1 σ v p1 ∧ Rel G g1 σ H1 e1 M1 ∧ PostC G W g1 H1 σ Q (EM.bind p1.now (fun z => EM.lift (fXv n i z)) e1 M1)) I
    ⟨g, e, M, R, h2.mono fun p1 e1 M1 _ k1 v H1 g1 N1 R1 r => ⟨g1, e1, M1, p1, r, R1, PostC.from N1 k1⟩⟩) fun u s1 hs => ?_)
  obtain ⟨v, H1, I1, rv, g1, e1, M1, p1, pv, R1, k1⟩ := hs
  obtain ⟨d0, k2, q1⟩ := now_ok R1 pv (PostR.bind k1)
  obtain ⟨r, er, k3⟩ := lift_ok k2
  unfold fXv at er
  split at er
  · rename_i ce fs
    have hce : 1000 ≤ ce ∧ ce - 1000 < n := by
      by_cases h : 1000 ≤ ce ∧ ce - 1000 < n
      · exact h
      · rw [if_neg h] at er; cases er
    rw [if_pos hce] at er
    obtain ⟨d, hd, rfl⟩ := Option.map_eq_some_iff.mp er
    rcases q1 with q1 | ⟨a, o, _, _, z⟩
    · simp only [Is] at q1
      obtain ⟨a, dd, rfl, q1, r⟩ := q1
      rcases q1 with ⟨hlt, _⟩ | ⟨hge, ob, uo, hf, z1, z2, vs, hv⟩
      · exact absurd hce.1 (by omega)
      cases (show u = Value.ref a from rv)
      rcases r with ⟨_, rfl⟩ | ⟨da, vfs, e2, e3, r⟩
      · simp at hd
      · obtain ⟨w, hw, iw⟩ := isFx_get r hd
        rw [F.nm] at hw
        obtain ⟨hget, _⟩ := (show ObjOk X.prog X.w H1 s1.heap a (.frz ob uo) from I1.hok a _ hf)
        obtain ⟨mA, hns, hr⟩ := (show ObjOk X.prog X.w H1 s1.heap da (.xd vfs) from I1.hok da _ e3)
        obtain ⟨od, ho, hl⟩ := lookIn_ns hns
        have rf := hr f
        rw [hw] at rf
        obtain ⟨uu, hu, ru⟩ := rf.some_of
        have J : PySem.W.InstAt s1.heap a ob (G.ca (ce - 1000)) (some od) := ⟨hget, z1, by unfold PySem.W.notCls; rw [hv] <;> rfl, by rw [z2, e2]; exact ho⟩
        obtain ⟨T, hno⟩ := F.xf (ce - 1000) hce.2
        have hK : X.K = G.K := c.K
        rw [← hK] at T hno
        exact HandSPX.exc_get I1.kIn J T.ga T.gg T.exC (PySem.W.findObj_own T.hdC hno rfl (by rw [hl, hu])) (handed_of ru) ⟨w, H1, I1.tok _, ru, k3 w H1 g1 (Next.refl _ _) R1 iw⟩
    · cases o <;> cases z
  · cases er
end
end PI
/-! PISndLo: comprehensions over a shared list. -/
namespace PI
open PySem PySem.Spec PyProof.Rows L2
end PI
set_option maxHeartbeats 1000000
/-! PISndTk: x, y = a, b with an object of one's own first, a name a cell. -/
namespace PI
open PySem PySem.Spec PyProof.Rows L2
end PI
set_option maxHeartbeats 1000000
/-! PISndTm: x or y of any things: soundness. -/
namespace PI
open PySem PySem.Spec PyProof.Rows L2
end PI
/-! PISrtJ: sorted(xs, key=f) where f's calls keep what a property J of the state tells (and the two lists that the sort has made). -/
namespace PI
open PySem PySem.Calls PyProof.Rows PySem.W
section
variable {prog : Program} {w : World} {A : Around} {E : Value → Shared → Prop} {s : Shared} {a kL : Addr} {b : Bool} {vs : List Value} {e1 : Nat} {P : PySem.Fin → Shared → Prop} {kz : List PyData}
/-- the state without the list of keys -/
theorem hide_one {h : Heap} {c : Addr} : (hideAll h [c]).get? c = none := hideAll_none _ List.mem_cons_self
theorem but_hide {h : Heap} {a c : Addr} : KeepsBut a (hideAll h [c]) h := fun _ _ _ e => of_hideAll _ e
theorem keyJ_rest (J : List Value → Shared → Prop) {f : Value} (n0 : s.heap.get? kL = some (seqObj "list" #[] 0)) (m0 : s.heap.get? a = some (seqObj "list" #[] e1)) (ne : kL ≠ a) (j0 : J [] s)
    (hlen : kz.length = vs.length) (hZ : vs.length ≤ sizeLine) (hal : AllAlike kz) (hsk : Sortable kz) (hu : ∀ d, d ∈ kz → A.units + d.depth < cLine)
    (turn : ∀ (i : Nat) (v : Value) (ks : List Value) (s1 : Shared), vs[i]? = some v → ks.length = i → J ks s1 → (∃ o, s1.heap.get? kL = some o) → (∃ o, s1.heap.get? a = some o) →
      wpAny (model prog w) A (call f [v]) (fun u s2 => J (ks ++ [u]) s2 ∧ s2.heap.get? kL = s1.heap.get? kL ∧ s2.heap.get? a = s1.heap.get? a) (fun _ _ => False) s1)
    (move : ∀ (ks : List Value) (s1 : Shared) (h2 : Heap) (tk : Nat), J ks s1 → (∀ b o, b ≠ a → b ≠ kL → s1.heap.get? b = some o → h2.get? b = some o) → J ks { s1 with heap := h2, toks := tk })
    (reads : ∀ (ks : List Value) (s1 : Shared), J ks s1 → ks.length = vs.length → EachIs (fun v k => ∃ as, Reads s1.heap v k as) ks kz)
    (fin : ∀ (ks : List Value) (s1 : Shared) out c, J ks s1 → s1.heap.get? a = some (seqObj "list" (List.toArray out) c) → KeyedOut b kz vs out → P (.done (.ret .none)) s1) :
    wpAny (model prog w) A (ksk_rest a f b vs.toArray e1 (.ref kL)) P E s := by
  unfold ksk_rest
  refine wpAny_bind (wpAny_rule ?_)
  first
    | rw [List.forIn_toArray]
    | (rw [← Array.forIn_toList]; simp only [List.toList_toArray])
    | rw [← Array.forIn_toList]
  refine wpAny_bind (ksk_fold (fun i s1 => ∃ kA e, J kA.toList s1 ∧ kA.size = i ∧ s1.heap.get? kL = some (seqObj "list" kA e) ∧ s1.heap.get? a = some (seqObj "list" #[] e1)) vs 0 s ⟨#[], 0, j0, rfl, n0, m0⟩ ?one ?all)
  case one =>
    rintro j x s1 hx ⟨kA, e, hJ, hz0, n1, m1⟩
    simp only [Nat.zero_add] at hz0 ⊢
    have hj : j < vs.length := (List.getElem?_eq_some_iff.mp hx).1
    refine wpAny_bind (wpAny_attempt (wpAny_mono (turn j x kA.toList s1 hx (by simpa using hz0) hJ ⟨_, n1⟩ ⟨_, m1⟩) (fun v s2 he => ?_) fun _ _ hF => hF.elim))
    obtain ⟨J2, e2, e3⟩ := he
    rw [n1] at e2
    rw [m1] at e3
    have u1 := Heap.SameBut.update s2.heap kL (Obj.mapSeq (·.push v))
    obtain ⟨c2, hc2⟩ : ∃ c2, (s2.heap.update kL (Obj.mapSeq (·.push v))).get? kL = some (seqObj "list" (kA.push v) c2) := ⟨_, get?_update_seq e2 (·.push v)⟩
    refine wpAny_bind (listUpdate_at e2 rfl ?_ (by omega) (by rw [Array.size_push]; omega))
    refine wpAny_pure ⟨rfl, kA.push v, c2, ?_, by rw [Array.size_push, hz0], hc2, (u1.2 a ne.symm).trans e3⟩
    rw [Array.toList_push]
    exact move _ s2 _ s2.toks J2 fun b o _ hk q => (u1.2 b hk).trans q
  case all =>
    rintro s1 ⟨kA, e, hJ, hz0, n1, m1⟩
    have hsz : kA.size = vs.length := by omega
    have rd := reads _ s1 hJ (by simpa using hsz)
    refine wpAny_bind (listItems_at n1 rfl ?_)
    refine keyH_end (κ := dataKind s1.heap kz) (h₁ := hideAll s1.heap [kL]) but_hide hide_one n1 m1 ne (SortsAt.data (s := s1) rd hal hsk hu) hsz hZ fun h3 tk3 c k3 n3 => ?_
    have J3 := move _ s1 h3 tk3 hJ fun b o ha hk q => k3 b o ha (hideAll_get _ q fun z => hk (List.mem_singleton.mp z))
    exact fin _ _ _ c J3 n3 ⟨s1.heap, kA.toList, hal, rfl, rd⟩
/-- sorted(xs, key=f) -/
theorem sortedJ {β : Type} {R : Value → β → Prop} {bs : List β} {l : Addr} {f : Value} {kw : List (Str × Value)} {Q : Value → Shared → Prop} (J : List Value → Shared → Prop) (k : β → PyData) (hl : s.heap.IsList l vs.toArray) (e : EachIs R vs bs) (hal : AllAlike (bs.map k)) (hk : Sortable (bs.map k)) (hL : bs.length ≤ sizeLine)
    (hu : ∀ x, x ∈ bs → A.units + 2 + (k x).depth < cLine) (ha1 : argsOk "sorted" ⟨[.ref l], kw⟩) (ha2 : ∀ x, argsOk "list.sort" ⟨[.ref x], kw⟩) (ht : ∀ x, Builtin.«list.sort» ⟨[.ref x], kw⟩ = ksk_tree x f b)
    (j0 : ∀ (h2 : Heap), (∀ b o, s.heap.get? b = some o → h2.get? b = some o) → J [] { s with heap := h2 })
    (turn : ∀ (i : Nat) (v : Value) (x : β) (ks : List Value) (s1 : Shared), vs[i]? = some v → bs[i]? = some x → ks.length = i → J ks s1 → (∃ o, s1.heap.get? (s.heap.objs.size + 3) = some o) → (∃ o, s1.heap.get? (s.heap.objs.size + 1) = some o) →
      wpAny (model prog w) A.in1.in1 (call f [v]) (fun u s2 => J (ks ++ [u]) s2 ∧ s2.heap.get? (s.heap.objs.size + 3) = s1.heap.get? (s.heap.objs.size + 3) ∧ s2.heap.get? (s.heap.objs.size + 1) = s1.heap.get? (s.heap.objs.size + 1)) (fun _ _ => False) s1)
    (move : ∀ (ks : List Value) (s1 : Shared) (h2 : Heap) (tk : Nat), J ks s1 → (∀ b o, b ≠ s.heap.objs.size + 1 → b ≠ s.heap.objs.size + 3 → s1.heap.get? b = some o → h2.get? b = some o) → J ks { s1 with heap := h2, toks := tk })
    (reads : ∀ (ks : List Value) (s1 : Shared), J ks s1 → ks.length = vs.length → EachIs (fun v k => ∃ as, Reads s1.heap v k as) ks (bs.map k))
    (fin : ∀ (ks : List Value) (s1 : Shared) out c, J ks s1 → s1.heap.get? (s.heap.objs.size + 1) = some (seqObj "list" (List.toArray out) c) → out.length = bs.length → EachIs R out (bs.mergeSort (dataLe b k)) → Q (.ref (s.heap.objs.size + 1)) s1) :
    wpAny (model prog w) A (call (.builtin "sorted") [.ref l] kw) Q E s := by
  have el := e.length
  refine sorted_of_sort hl (by rw [el]; exact hL) ha1 ha2 fun E' => ?_
  rw [ht]
  have ho := copyHeap_at s.heap vs
  have hsz := Heap.lt_size ho
  obtain ⟨e1, ho1⟩ : ∃ e1, ((copyHeap s.heap vs).update (s.heap.objs.size + 1) (Obj.mapSeq fun _ => (#[] : Array Value))).get? (s.heap.objs.size + 1) = some (seqObj "list" #[] e1) := ⟨_, get?_update_seq ho fun _ => #[]⟩
  unfold ksk_tree
  refine wpAny_bind (listItems_at ho rfl ?_)
  refine wpAny_bind (listUpdate_at ho rfl ?_ (by rw [List.size_toArray, el]; exact hL) (Nat.zero_le _))
  refine wpAny_bind (seqEpoch_at ho1 rfl ?_)
  refine wpAny_bind (wpAny_newTuple ?_ (by show vs.length ≤ _; rw [el]; exact hL))
  refine wpAny_bind (wpAny_newList ?_ (Nat.zero_le _))
  refine wpAny_holding ?_
  have hsc : (copyHeap s.heap vs).objs.size = s.heap.objs.size + 2 := by
    unfold copyHeap
    simp only [Heap.size_update, size_push']
  have hkS : (((copyHeap s.heap vs).update (s.heap.objs.size + 1) (Obj.mapSeq fun _ => (#[] : Array Value))).push (seqObj "tuple" vs.toArray 0)).objs.size = s.heap.objs.size + 3 := by rw [size_push', Heap.size_update, hsc]
  refine keyJ_rest (kz := bs.map k) J (s := { s with heap := (((copyHeap s.heap vs).update (s.heap.objs.size + 1) (Obj.mapSeq fun _ => (#[] : Array Value))).push (seqObj "tuple" vs.toArray 0)).push (seqObj "list" #[] 0) }) (kL := (((copyHeap s.heap vs).update (s.heap.objs.size + 1) (Obj.mapSeq fun _ => (#[] : Array Value))).push (seqObj "tuple" vs.toArray 0)).objs.size)
    (Heap.get?_push_size _ rfl) (Heap.get?_push_of_some _ (Heap.get?_push_of_some _ ho1)) (by rw [hkS]; exact Nat.ne_of_gt (Nat.add_lt_add_left (by decide) _)) (j0 _ fun b o q => ?_) (by rw [List.length_map]; exact el.symm) (by rw [el]; exact hL) hal hk (bound_map (A := A.in1.in1) hu)
    (fun i v ks s1 hv hks hJ q1 q2 => ?_) (fun ks s1 h2 tk hJ q => move ks s1 h2 tk hJ fun b o h1 h3 q0 => q b o h1 (by rw [hkS]; exact h3) q0) reads fun ks s1 out c hJ hD ko => ⟨rfl, ?_⟩
  · have hb := Heap.lt_size q
    have hne : b ≠ s.heap.objs.size + 1 := Nat.ne_of_lt (Nat.lt_succ_of_lt hb)
    exact Heap.get?_push_of_some _ (Heap.get?_push_of_some _ ((Heap.get?_update_other _ _ (Ne.symm hne)).trans (copyHeap_old q)))
  · rw [hkS] at q1 ⊢
    have hi : i < bs.length := by rw [← el]; exact (List.getElem?_eq_some_iff.mp hv).1
    exact wpAny_mono (turn i v bs[i] ks s1 hv (List.getElem?_eq_getElem hi) hks hJ q1 q2) (fun u s2 z => z) fun _ _ z => z
  · exact fin ks s1 out c hJ hD ((ko.length (by rw [List.length_map]; exact el.symm)).trans el) (keyedOut_each k ko e)
end
end PI
set_option maxHeartbeats 1000000
/-! PISrtK: sorted(xs, key=f): soundness. -/
namespace PI
open PySem PySem.Spec PyProof.Rows L2
theorem keyOf_mk {f : FT} {x d : PI.D} (h : keyOf f x = some d) : f [x] [] = .ok (.val d) [] ∧ limL false 0 [x] = true ∧ d.okR = true := by
  unfold keyOf at h
  split at h
  · rename_i d' e
    split at h
    · rename_i hc
      cases h
      rw [Bool.and_eq_true] at hc
      exact ⟨e, hc.1, hc.2⟩
    · cases h
  · cases h
theorem keysD_get {f : FT} : ∀ {xs ks : List PI.D} {i : Nat} {x : PI.D}, keysD f xs = some ks → xs[i]? = some x → ∃ d, ks[i]? = some d ∧ keyOf f x = some d
  | [], _, i, x, _, h => by simp at h
  | y :: ys, ks, i, x, e, h => by
    unfold keysD at e
    split at e
    · rename_i d ds h1 h2
      cases e
      cases i with
      | zero =>
        simp at h
        subst h
        exact ⟨d, rfl, h1⟩
      | succ i =>
        obtain ⟨d', e1, e2⟩ := keysD_get h2 (i := i) (by simpa using h)
        exact ⟨d', by simpa using e1, e2⟩
    · cases e
theorem keysD_len {f : FT} : ∀ {xs ks : List PI.D}, keysD f xs = some ks → ks.length = xs.length
  | [], _, e => by cases e; rfl
  | y :: ys, ks, e => by
    unfold keysD at e
    split at e
    · rename_i d ds h1 h2
      cases e
      simp [keysD_len h2]
    · cases e
section
variable {X : Cx} {G : Ga} {W : WX} {k j i : Nat} {f : FT} {g : Gs} {H : Hp} {pins : List (Addr × Obj)} {σ : St} {s : Shared}
/-- what is known while the keys are asked for: the keys told so far -/
def KeyJ (X : Cx) (G : Ga) (pins : List (Addr × Obj)) (σ : St) (H : Hp) (z : Nat) (ds : List PI.D) (ks : List Value) (s1 : Shared) : Prop :=
  ∃ (H1 : Hp) (vs : List V), Grow H H1 ∧ Inv X pins σ H1 s1 ∧ H1 (z + 1) = none ∧ H1 (z + 3) = none ∧ Vals vs ks ∧ ∀ g', IsL G g' H1 (ds.take ks.length) vs
theorem ok_sortKey (c0 : XI X G W k) (h : KnV X.prog X.w G X.mg X.base j 1 i f) (hj : j + 2 ≤ k) : CallRK X (.builtin "sorted") [Str.ofString "key"] (rBK G (fSortK i f)) := by
  intro pins s σ H vs zs us ws Q I r rz ⟨g, M, ds, es, rr, R, w, w2, e, q⟩
  unfold fSortK at e
  split at e
  · rename_i xs0 j0
    split at e
    · rename_i ej
      subst ej
      obtain ⟨kd, ek, e⟩ := Option.bind_eq_some_iff.mp e
      obtain ⟨pds, ep, e⟩ := Option.bind_eq_some_iff.mp e
      split at e
      · rename_i ok
        cases e
        obtain ⟨k1, k2, k3⟩ := sortOk_parts ok
        obtain ⟨v, rfl, hv⟩ := vwl1 w
        obtain ⟨a, xs, rfl, q1, r1⟩ := vw_lst hv
        obtain ⟨v2, rfl, hv2⟩ := vwl1 w2
        obtain ⟨u2, rfl, ru2⟩ := vals1 rz
        have hf2 : v2 = .ref (G.fa j0) := by
          rcases hv2 with hv2 | ⟨_, o, _, _, hv2⟩
          · exact hv2
          · cases o <;> cases hv2
        subst hf2
        cases ru2
        rw [← c0.K] at q1
        rw [Vals.ref1 r]
        obtain ⟨its, rv, hl, hz⟩ := I.list q1
        obtain ⟨fd, ps, kp, fn, ⟨dvs, dv, b1, b2, b3⟩, pl⟩ := h
        have hdv : dvs = [] := by
          have := b3 g H
          cases dv with
          | nil => cases b2; rfl
          | cons _ _ => simp only [IsL] at this
        have lk := keysD_len ek
        have lx : xs0.length = xs.length := r1.length
        have li : its.length = xs.length := rv.length.symm
        let bs : List ((PI.D × PI.D) × V) := (xs0.zip kd).zip xs
        have lb : bs.length = xs.length := by simp only [bs, List.length_zip]; omega
        have eb : ∀ n v, its[n]? = some v → ∀ b : (PI.D × PI.D) × V, bs[n]? = some b → RelV b.2 v ∧ Is G g H b.1.1 b.2 ∧ keyOf f b.1.1 = some b.1.2 ∧ kd[n]? = some b.1.2 := fun n v hn b hb => by
          obtain ⟨e1, e2⟩ := List.getElem?_zip_eq_some.mp hb
          obtain ⟨e3, e4⟩ := List.getElem?_zip_eq_some.mp e1
          obtain ⟨u, e5, e6⟩ := rv.get e2
          rw [hn] at e5
          cases e5
          obtain ⟨w', e7, e8⟩ := r1.get e3
          rw [e2] at e7
          cases e7
          obtain ⟨d, e9, e10⟩ := keysD_get ek e3
          rw [e4] at e9
          cases e9
          exact ⟨e6, e8, e10, e4⟩
        have ee : PySem.W.EachIs (fun u (b : (PI.D × PI.D) × V) => RelV b.2 u ∧ Is G g H b.1.1 b.2) its bs := by
          have : ∀ {us : List Value} {bs : List ((PI.D × PI.D) × V)}, us.length = bs.length → (∀ (n : Nat) (v : Value), us[n]? = some v → ∀ b : (PI.D × PI.D) × V, bs[n]? = some b → RelV b.2 v ∧ Is G g H b.1.1 b.2) → PySem.W.EachIs (fun u (b : (PI.D × PI.D) × V) => RelV b.2 u ∧ Is G g H b.1.1 b.2) us bs := by
            intro us
            induction us with
            | nil =>
              intro bs hl _
              cases bs with
              | nil => exact .nil
              | cons _ _ => simp at hl
            | cons u us ih =>
              intro bs hl hh
              cases bs with
              | nil => simp at hl
              | cons b bs => exact .cons (hh 0 u rfl b rfl) (ih (by simpa using hl) fun n v hv b' hb' => hh (n + 1) v (by simpa using hv) b' (by simpa using hb'))
          exact this (by omega) fun n v hn b hb => ⟨(eb n v hn b hb).1, (eb n v hn b hb).2.1⟩
        have ekk : bs.map (fun b => (dat b.1.2).getD .none) = pds := by
          have : ∀ {kd : List PI.D} {pds : List PyData} {as : List PI.D} {xs : List V}, datL kd = some pds → as.length = kd.length → xs.length = kd.length → ((as.zip kd).zip xs).map (fun b => (dat b.1.2).getD .none) = pds := by
            intro kd
            induction kd with
            | nil =>
              intro pds as xs e h1 h2
              cases e
              cases as with
              | nil => rfl
              | cons _ _ => simp at h1
            | cons d kd ih =>
              intro pds as xs e h1 h2
              cases as with
              | nil => simp at h1
              | cons a as =>
                cases xs with
                | nil => simp at h2
                | cons x xs =>
                  simp only [datL] at e
                  cases e1 : dat d with
                  | none => rw [e1] at e; cases e
                  | some p =>
                    rw [e1] at e
                    obtain ⟨ps', e2, rfl⟩ := Option.map_eq_some_iff.mp e
                    show _ :: ((as.zip kd).zip xs).map _ = _
                    rw [ih e2 (by simpa using h1) (by simpa using h2)]
                    simp only [e1, Option.getD_some]
          exact this ep (by omega) (by omega)
        have hu := c0.toXJ.room.units
        have hfree : ∀ n, H (s.heap.objs.size + n) = none := fun n => I.hok.fresh (Nat.le_add_right _ _)
        refine sortedJ (b := false) (R := fun u (b : (PI.D × PI.D) × V) => RelV b.2 u ∧ Is G g H b.1.1 b.2) (bs := bs) (KeyJ X G pins σ H s.heap.objs.size kd) (fun b => (dat b.1.2).getD .none) hl.isList ee (by rw [ekk]; exact k1) (by rw [ekk]; exact k2) (by rw [lb]; exact hz) (fun b hb => ?_) (PyProof.Rows.ksk_s1 _ _) (fun _ => PyProof.Rows.ksk_l1 _ _) (fun _ => PyProof.Rows.ksk_t1 _ _)
          (fun h2 keep => ⟨H, [], Grow.refl _, I.kept (t' := s.toks) keep, hfree 1, hfree 3, .nil, fun g' => by simp only [List.length_nil, List.take_zero, IsL]⟩) (fun n v b ks s1 hv hb hn hJ c1 c2 => ?_) (fun ks s1 h2 tk hJ keep => ?_) (fun ks s1 hJ hn => ?_) fun ks s1 out c hJ hD hol hso => ?_
        · have : (dat b.1.2).getD .none ∈ pds := by rw [← ekk]; exact List.mem_map_of_mem (f := fun b : (PI.D × PI.D) × V => (dat b.1.2).getD .none) hb
          have := k3 _ this
          omega
        · -- one key is asked for
          obtain ⟨H1, vk, gr, I1, n1, n3, vl, il⟩ := hJ
          obtain ⟨rb, ib, kb, nb⟩ := eb n v hv b hb
          obtain ⟨m1, m2, m3⟩ := keyOf_mk kb
          have ib1 : IsL G g H1 [b.1.1] [b.2] := by
            simp only [IsL]
            exact ⟨Is.next (R.grows gr) ib, trivial⟩
          have e0 : Env0 X.prog X.w G.K X.mg X.base X.A.in1.in1 X.stack s1 H1 := by
            have e := I1.env0
            rw [c0.K] at e
            exact ⟨e.frames, e.mod, e.bs, e.bsz, e.funs, e.frf, e.hok, e.bare⟩
          have rm : Room j X.A.in1.in1 := ((c0.mono hj).roomC).in1.in1
          have b1' := b1 s1 [v] (by rw [← c0.K]; exact I1.kIn) (by rw [hdv, pl]; rfl)
          rw [hdv, List.append_nil] at b1'
          refine wpAny_mono (Q := fun u s2 => CE X.stack X.prog X.w H1 s1 (fun v' H' => (∀ g', Is G g' H' b.1.2 v') ∧ Grow H1 H') u s2) (wpAny_call (codeAny_mono (fn.pure (Q := fun v' H' => (∀ g', Is G g' H' b.1.2 v') ∧ Grow H1 H') ⟨rm, c0.gd⟩ e0 b1' (.cons rb .nil) ib1 (by rw [pl]; rfl) m2 m1 m3 fun v' H' w qq => ⟨qq, w⟩) fun rr s' hq => ?_)) (fun u s2 hq => ?_) fun _ _ z => z
          · cases rr with
            | error er =>
              obtain ⟨_, _, _, _, _, _, _, _, _, _, _, _, z⟩ := hq
              exact False.elim z
            | ok fl' =>
              cases fl' with
              | ret w' => exact hq
              | next => exact False.elim hq
              | brk => exact False.elim hq
              | cont => exact False.elim hq
          · have hq0 := hq
            obtain ⟨v', H2, _, _, un, _, _, _, _⟩ := hq0
            obtain ⟨v', H2, os2, bare2, un2, hok2, rv2, ev2, gr2⟩ := hq
            have nofr : ∀ m, s.heap.objs.size + m ∉ frs X.stack := fun m hm => by
              obtain ⟨_, o', e', _⟩ := I.stack.mem hm
              exact absurd (Heap.lt_size e') (Nat.not_lt_of_le (Nat.le_add_right _ _))
            obtain ⟨o1, e1⟩ := c1
            obtain ⟨o2, e2⟩ := c2
            have I2 : Inv X pins σ H2 s2 := I1.call' (ch := []) os2 un2 hok2 bare2 (fun _ z => nomatch z)
            refine ⟨⟨H2, vk ++ [v'], fun a o ho => gr2 a o (gr a o ho), I2, un2.free _ _ e2 n1 (by simp), un2.free _ _ e1 n3 (by simp), vl.append (.cons rv2 .nil), fun g' => ?_⟩, ?_, ?_⟩
            · have et : kd.take (ks ++ [u]).length = kd.take ks.length ++ [b.1.2] := by
                rw [List.length_append, List.length_singleton, hn, List.take_add_one, nb]
                rfl
              rw [et]
              refine IsL.append ((il g').nextI (g' := g') ⟨⟨[], by simp⟩, fun a o ho _ => gr2 a o ho⟩) ?_
              simp only [IsL]
              exact ⟨ev2 g', trivial⟩
            · rw [e1]
              exact un2.keep _ _ e1 n3 (nofr 3) (by simp)
            · rw [e2]
              exact un2.keep _ _ e2 n1 (nofr 1) (by simp)
        · obtain ⟨H1, vk, gr, I1, n1, n3, vl, il⟩ := hJ
          refine ⟨H1, vk, gr, I1.turnedL (ch := [s.heap.objs.size + 1, s.heap.objs.size + 3]) (t' := tk) (fun b o hb e => keep b o (fun z => hb (by simp [z])) (fun z => hb (by simp [z])) e) (fun b hb => ?_), n1, n3, vl, il⟩
          rcases List.mem_cons.mp hb with z | z
          · rw [z]
            exact I.fpOk (Nat.le_add_right _ _) n1
          · rw [List.mem_singleton.mp z]
            exact I.fpOk (Nat.le_add_right _ _) n3
        · obtain ⟨H1, vk, gr, I1, n1, n3, vl, il⟩ := hJ
          have il := il g
          rw [List.take_of_length_le (by omega)] at il
          rw [ekk]
          have : ∀ {ds : List PI.D} {ps : List PyData} {vs : List V} {us : List Value}, datL ds = some ps → IsL G g H1 ds vs → Vals vs us → PySem.W.EachIs (fun v p => ∃ as, Reads s1.heap v p as) us ps := by
            intro ds
            induction ds with
            | nil =>
              intro ps vs us e h r
              cases e
              cases vs with
              | nil => cases r; exact .nil
              | cons _ _ => simp only [IsL] at h
            | cons d ds ih =>
              intro ps vs us e h r
              cases vs with
              | nil => simp only [IsL] at h
              | cons v vs =>
                simp only [IsL] at h
                cases r with
                | cons r1 r2 =>
                  simp only [datL] at e
                  cases e1 : dat d with
                  | none => rw [e1] at e; cases e
                  | some p =>
                    rw [e1] at e
                    obtain ⟨ps', e2, rfl⟩ := Option.map_eq_some_iff.mp e
                    obtain ⟨as, rd, _⟩ := Is.reads c0.K I1 h.1 e1 r1
                    exact .cons ⟨as, rd⟩ (ih e2 h.2 r2)
          exact this ep il vl
        · obtain ⟨H1, vk, gr, I1, n1, n3, vl, il⟩ := hJ
          let ob := bs.mergeSort (PySem.W.dataLe false fun b : (PI.D × PI.D) × V => (dat b.1.2).getD .none)
          have hvl : Vals (ob.map (·.2)) out := by
            have : ∀ {us : List Value} {bs : List ((PI.D × PI.D) × V)}, PySem.W.EachIs (fun u (b : (PI.D × PI.D) × V) => RelV b.2 u ∧ Is G g H b.1.1 b.2) us bs → Vals (bs.map (·.2)) us := fun {us bs} h => by
              induction h with
              | nil => exact .nil
              | cons h _ ih => exact .cons h.1 ih
            exact this hso
          have hlen : (ob.map (·.2)).length ≤ sizeLine := by
            rw [List.length_map, List.length_mergeSort, lb]
            exact hz
          have I3 : Inv X pins σ (upd H1 (s.heap.objs.size + 1) (.lst (ob.map (·.2)))) s1 := I1.take (h' := s1.heap) (t' := s1.toks) (fun _ _ _ e => e) (I.fpOk (Nat.le_add_right _ _) n1) ⟨hlen, out, c, hvl, hD⟩
          have g3 : Grow H (upd H1 (s.heap.objs.size + 1) (.lst (ob.map (·.2)))) := fun b o ho => (Grow.upd n1) b o (gr b o ho)
          refine ⟨.ref _, _, I3, rfl, q _ _ g3 ⟨_, rfl, hfree 1, _, upd_same, ?_⟩⟩
          have em : ((xs0.zip kd).mergeSort fun a b => leD a.2 b.2).map (·.1) = (ob.map (·.1)).map (·.1) := by
            have e1 : (xs0.zip kd).mergeSort (fun a b => leD a.2 b.2) = ob.map (·.1) := by
              have hm := List.map_mergeSort (r := PySem.W.dataLe false fun b : (PI.D × PI.D) × V => (dat b.1.2).getD .none) (s := fun a b : PI.D × PI.D => leD a.2 b.2) (f := fun b : (PI.D × PI.D) × V => b.1) (l := bs) (fun a ha b hb => ?_)
              · rw [show ob.map (fun b => b.1) = List.map (fun b : (PI.D × PI.D) × V => b.1) (bs.mergeSort (PySem.W.dataLe false fun b : (PI.D × PI.D) × V => (dat b.1.2).getD .none)) from rfl, hm]
                congr 1
                simp only [bs]
                rw [List.map_fst_zip]
                simp only [List.length_zip]
                omega
              · rw [PySem.W.dataLe_eq]
                have mem : ∀ z ∈ bs, ∃ p, dat z.1.2 = some p := fun z hz => by
                  have hz1 := (List.of_mem_zip hz).1
                  have hz2 := (List.of_mem_zip hz1).2
                  obtain ⟨p, e, _⟩ := datL_mem ep _ hz2
                  exact ⟨p, e⟩
                obtain ⟨p, e1⟩ := mem a ha
                obtain ⟨q', e2⟩ := mem b hb
                show (!PySem.W.dataLt ((dat b.1.2).getD .none) ((dat a.1.2).getD .none)) = _
                unfold leD
                rw [e1, e2]
                rfl
            rw [e1]
          rw [em]
          have isl : ∀ {bs : List ((PI.D × PI.D) × V)}, (∀ b ∈ bs, Is G g (upd H1 (s.heap.objs.size + 1) (.lst (ob.map (·.2)))) b.1.1 b.2) → IsL G g (upd H1 (s.heap.objs.size + 1) (.lst (ob.map (·.2)))) ((bs.map (·.1)).map (·.1)) (bs.map (·.2)) := by
            intro bs
            induction bs with
            | nil => intro _; simp only [List.map_nil, IsL]
            | cons b bs ih =>
              intro hb
              simp only [List.map_cons, IsL]
              exact ⟨hb b (List.mem_cons_self ..), ih fun x hx => hb x (List.mem_cons_of_mem _ hx)⟩
          refine isl fun b hb => ?_
          rw [List.mem_mergeSort] at hb
          obtain ⟨n, hn, hg⟩ := List.getElem_of_mem hb
          have hb' : bs[n]? = some b := by rw [List.getElem?_eq_getElem hn, hg]
          have hn2 : n < its.length := by omega
          exact Is.next (R.grows g3) (eb n its[n] (List.getElem?_eq_getElem hn2) b hb').2.1
      · cases e
    · cases e
  · cases e
end
end PI
set_option maxHeartbeats 1000000
/-! PISndTn: soundness of eBorE. -/
namespace PI
open PySem PySem.Spec PyProof.Rows L2
end PI
set_option maxHeartbeats 1000000
/-! PISndT2: soundness of PIBor2. -/
namespace PI
open PySem PySem.Spec PyProof.Rows L2
end PI
set_option maxHeartbeats 1000000
/-! PISndBg: soundness of PIBorG. -/
namespace PI
open PySem PySem.Spec PyProof.Rows L2
end PI
set_option maxHeartbeats 1000000
/-! PISndBm: soundness of PIBorM. -/
namespace PI
open PySem PySem.Spec PyProof.Rows L2
end PI
set_option maxHeartbeats 1000000
/-! PISndTt: try: body, except (A, B) as e: return f(e). -/
namespace PI
open PySem PySem.Spec PyProof.Rows L2
end PI
set_option maxHeartbeats 1000000
/-! PISndHo: f(e) in an except suite of simple statements. -/
namespace PI
open PySem PySem.Spec PyProof.Rows L2
section
variable {X : Cx} {G : Ga} {W : WX} {k j n : Nat} {fd : FuncData} {f : Addr} {pn nm fx : Str} {hw : Xn → Option D} {i : Nat}
theorem okHotX (c : XI X G W k) (h : KnX X.prog X.w G X.mg X.base j fx pn n hw f fd) {a : Addr} {oe : Obj} {d : Option Addr} {pns : List (Addr × Obj)} {x : Xn} (hx : HotX G x (a, oe) d) {p1 p2 p3 : Pos} (hj : j ≤ k := by omega)
    (hi : X.N[i]? = some nm := by rfl) (hln : X.env.kindOf nm = some .local := by rfl) (hlt : x.c < n := by assumption)
    (hg : Gl X fx := by rfl) (hdb : (fx == ("__debug__" : Str)) = false := by decide) (hdn : (nm == ("__debug__" : Str)) = false := by decide) (hcd : (nm == ("__classdict__" : Str)) = false := by decide)
    (he : starEach [.Name nm p2] X.env = (false, eval (.Name nm p2) X.env) :: starEach [] X.env := by rfl) (hpl : (backTo p3 (starEach [] X.env)).any (·.1) = false := by rfl) :
    PEI (X.suite a ((a, oe) :: pns)) (gaX G x (a, oe) d) W0 (.Call (.Name fx p1) [.Name nm p2] [] p3) (eHot n hw i) := by
  have hk : PySem.W.keepIn X.K (.ref f) = true := by rw [c.K]; exact h.kp
  have hb : Binds X.K fd [pn] [] := by rw [c.K]; exact h.bd
  have F := h.fn.mono hj
  have hm := h.m
  refine ⟨fun pins s σ H Q I ⟨g, e0, M, R, q⟩ => ?_⟩
  have hns : eHot n hw i e0 M ≠ .stuck := fun e => by rw [e] at q; exact q
  obtain ⟨c', fs, r, hsl, hcn, hlim, hw', hR, e1⟩ := eHot_run hns
  rw [e1] at q
  obtain ⟨v', hσ, is⟩ := R.sl i _ hsl
  simp only [Is] at is
  obtain ⟨a', dd, rfl, is, hfl⟩ := is
  rcases is with ⟨_, ea, ec, ed⟩ | ⟨hge, _⟩
  case inr => exact absurd hcn.2 (by omega)
  have ea : a' = a := ea
  subst ea ec ed
  have hxf : XfH G g H ⟨x.c, fs⟩ dd := by
    rcases hfl with ⟨rfl, rfl⟩ | ⟨dd', vfs, rfl, e1, e2⟩
    · rfl
    · exact ⟨vfs, e1, e2.okR gaX_eq' hlim⟩
  have hv : Vis X.env.scope nm := .inl hln
  refine wpAny_Call_Name_kw (ld_glob (X := X.suite a' ((a', oe) :: pns)) I hg hm ?_ hdb)
  have ha : PA (X.suite a' ((a', oe) :: pns)) [.Name nm p2] (tCons (tVar i) tNil) := pa_cons (pe_var (X := X.suite a' ((a', oe) :: pns)) hi hv hdn hcd) pa_nil
  refine PySem.W.callWith_K (h₀ := X.base) I.ok.mod.kin hk (thn (ha.run p3 pins s σ H (fun vs H1 => vs = [V.ref a'] ∧ H1 = H) I ⟨_, hσ, rfl, rfl⟩) fun us s1 hh => ?_) he hpl
  obtain ⟨vs, H1, I1, r1, ev, eH⟩ := hh
  subst ev eH
  refine ⟨I1.kIn, ?_⟩
  rw [Vals.ref1 r1]
  have b := hb s1 [.ref a'] I1.kIn (by rfl)
  rw [List.append_nil] at b
  have P1 := I1.pin (a', oe) (List.mem_append_left _ List.mem_cons_self)
  have hpin : L2H.PinOk X.stack H1 s1 (a', oe) := ⟨P1.1, P1.2.1, fun hm => (List.mem_cons.mp (I1.stkSub a' hm)).elim P1.2.2.1 P1.2.2.2.1, P1.2.2.2.2⟩
  obtain ⟨vf, hvf⟩ := hx.f
  have hot : L2H.Hot1 (X.A.mark (some (.ref a'))) (a', oe) := ⟨rfl, vf, hvf, hx.z.2.2 vf hvf⟩
  have hx' : HotX G ⟨x.c, fs⟩ (a', oe) dd := ⟨hx.z, ⟨vf, hvf⟩⟩
  have hr : L2H.RoomH k (X.A.mark (some (.ref a'))) := ⟨c.rm.dp, c.rm.un⟩
  have hgd : GdOk G.pg (X.A.mark (some (.ref a'))) := c.gd
  have e0 : Env0 X.prog X.w G.K X.mg X.base (X.A.mark (some (.ref a'))) X.stack s1 H1 := by
    have := I1.env0
    rw [← c.K]
    exact this
  refine wpAny_call (codeAny_mono (F.run _ X.stack s1 H1 ⟨[.ref a'], []⟩ (a', oe) dd ⟨x.c, fs⟩ g r Q (fun _ _ _ => False) hr hgd hot hpin hx' hlt hxf hlim hw' e0 b fun v H2 w is => ?_) fun r s' hq => ?_)
  · exact q v H2 g (R.toHRel.grows w) (R.grow w) ((is g).okR gaX_eq hR)
  cases r with
  | error e =>
    obtain ⟨_, _, _, _, _, _, _, _, _, _, _, _, z⟩ := hq
    exact z
  | ok fl =>
    cases fl with
    | ret u => exact I1.after hq
    | next => exact False.elim hq
    | brk => exact False.elim hq
    | cont => exact False.elim hq
end
end PI
set_option maxHeartbeats 1000000
/-! PISndNt: a dict is no text. -/
namespace PySem.SeqAt
open AutoSeq1 (wpAny_loadPart')
open MeetsSeq
end PySem.SeqAt
namespace PI
open PySem PySem.Spec PyProof.Rows L2
end PI
set_option maxHeartbeats 1000000
/-! PISndNa: x != y, x an instance or none. -/
namespace PI
open PySem PySem.Spec PyProof.Rows L2
end PI
set_option maxHeartbeats 1000000
/-! PISndFS: f-strings. -/
namespace PI
open PySem PySem.Spec PyProof.Rows L2
end PI
set_option maxHeartbeats 1000000
/-! PISndFT: an f-string's part that is a tuple. -/
namespace PI
open PySem PySem.Spec PyProof.Rows L2
end PI
/-! PIRepJ: repr of lists, tuples, dicts whose items' own repr makes objects: what is kept is a property J of the state, with some new lists pinned. -/
namespace PI
open PySem Builtin Builtin.List
open Sem (wp)
/-- what a container holds -/
def kidsO (o : Obj) : List Value := match o.data with
  | .seq items _ => items.toList
  | .dict es _ => es.toList.map (·.key) ++ es.toList.map (·.val)
  | _ => []
/-- a height at most n, by the objects that stay -/
def HtLe (R : Addr → Obj → Prop) : Nat → Value → Prop
  | 0, v => ∀ a o, v = .ref a → R a o → kidsO o = []
  | n + 1, v => ∀ a o, v = .ref a → R a o → ∀ x ∈ kidsO o, HtLe R n x
section
variable {R : Addr → Obj → Prop}
theorem HtLe.succ : ∀ {n : Nat} {v : Value}, HtLe R n v → HtLe R (n + 1) v
  | 0, v, h => fun a o e r x hx => by rw [h a o e r] at hx; cases hx
  | n + 1, v, h => fun a o e r x hx => HtLe.succ (h a o e r x hx)
theorem HtLe.mono {n m : Nat} {v : Value} (h : HtLe R n v) (l : n ≤ m) : HtLe R m v := by
  induction l with
  | refl => exact h
  | step _ ih => exact ih.succ
theorem HtLe.least {v : Value} : ∀ {n : Nat}, HtLe R n v → ∃ m, m ≤ n ∧ HtLe R m v ∧ (m = 0 ∨ ∃ k, m = k + 1 ∧ ¬ HtLe R k v)
  | 0, h => ⟨0, Nat.le_refl _, h, .inl rfl⟩
  | n + 1, h => by
    by_cases q : HtLe R n v
    · obtain ⟨m, l, r⟩ := HtLe.least q
      exact ⟨m, Nat.le_succ_of_le l, r⟩
    · exact ⟨n + 1, Nat.le_refl _, h, .inr ⟨n, rfl, q⟩⟩
/-- what is being shown is of a greater height -/
def Above (R : Addr → Obj → Prop) (n : Nat) (g : List Code) : Prop := ∀ id v rest kw, Code.builtin id ⟨v :: rest, kw⟩ ∈ g → ¬ HtLe R n v
theorem Above.mono {n m : Nat} {g : List Code} (h : Above R n g) (l : m ≤ n) : Above R m g := fun id v rest kw q z => h id v rest kw q (z.mono l)
theorem Above.cons {n : Nat} {g : List Code} {a : Addr} {id : String} {rest : List Value} {kw : List (Str × Value)} (h : Above R n g) (ha : ¬ HtLe R n (.ref a)) : Above R n (.builtin id ⟨.ref a :: rest, kw⟩ :: g) := by
  intro id' v rest' kw' hm
  rcases List.mem_cons.mp hm with e | hm
  · cases e
    exact ha
  · exact h _ _ _ _ hm
theorem Above.clear {n : Nat} {g : List Code} {a : Addr} (h : Above R n g) (ha : HtLe R n (.ref a)) : Clear g a := fun id v rest kw hm e => h id v rest kw hm (e ▸ ha)
end
/-- what stands around: the frames, no exception, room for so many containers and calls -/
structure AO (fr : Option (List PySem.Env)) (j d : Nat) (A : Around) : Prop where
  fr : A.frames = fr
  hd : A.handled = none
  dp : A.depth + d + 3 * j + 5 < recursionLimit
  un : A.units + d + 16 * j + 200 < cLine
theorem AO.le {fr : Option (List PySem.Env)} {j d e : Nat} {A : Around} (h : AO fr j d A) (l : e ≤ d) : AO fr j e A := ⟨h.fr, h.hd, by have := h.dp; omega, by have := h.un; omega⟩
theorem AO.lt {fr : Option (List PySem.Env)} {j d : Nat} {A : Around} (h : AO fr j d A) : A.units + d < cLine := by have := h.un; omega
theorem AO.under {fr : Option (List PySem.Env)} {j d : Nat} {A : Around} {c : Code} (h : AO fr j (d + 1) A) (e1 : (A.under c).frames = A.frames) (e2 : (A.under c).depth = A.depth + 1) (e3 : (A.under c).units = A.units + 1) : AO fr j d (A.under c) :=
  ⟨e1.trans h.fr, h.hd, by rw [e2]; have := h.dp; omega, by rw [e3]; have := h.un; omega⟩
abbrev LO (acc : Array Value) (c : Nat) : Obj := { cls := .type "list", dict := none, data := .seq acc c, slots := #[] }
/-- a property of the state that bears what repr does -/
structure JOk (J : List (Addr × Obj) → Shared → Prop) (R : Addr → Obj → Prop) : Prop where
  rd : ∀ {ps : List (Addr × Obj)} {s : Shared}, J ps s → ∀ {b : Addr} {o : Obj}, R b o → s.heap.get? b = some o
  pin : ∀ {ps : List (Addr × Obj)} {s : Shared} {P : Addr} {o : Obj}, J ((P, o) :: ps) s → s.heap.get? P = some o
  drop : ∀ {ps : List (Addr × Obj)} {s : Shared} {p : Addr × Obj}, J (p :: ps) s → J ps s
  keep : ∀ {ps : List (Addr × Obj)} {s : Shared} {h' : Heap} {tk : Nat}, J ps s → (∀ b o, s.heap.get? b = some o → h'.get? b = some o) → J ps { s with heap := h', toks := tk }
  push : ∀ {ps : List (Addr × Obj)} {s : Shared} {h' : Heap} {tk : Nat} {P : Addr} {acc : Array Value} {c : Nat}, J ps s → (∀ b o, s.heap.get? b = some o → h'.get? b = some o) → s.heap.objs.size ≤ P → h'.get? P = some (LO acc c) → J ((P, LO acc c) :: ps) { s with heap := h', toks := tk }
  upd : ∀ {ps : List (Addr × Obj)} {s : Shared} {h' : Heap} {tk : Nat} {P : Addr} {acc acc' : Array Value} {c c' : Nat}, J ((P, LO acc c) :: ps) s → (∀ b o, b ≠ P → s.heap.get? b = some o → h'.get? b = some o) → h'.get? P = some (LO acc' c') → J ((P, LO acc' c') :: ps) { s with heap := h', toks := tk }
/-- a value is shown as t -/
def RJ (prog : Program) (w : World) (J : List (Addr × Obj) → Shared → Prop) (R : Addr → Obj → Prop) (fr : Option (List PySem.Env)) (j d : Nat) (x : Value) (t : Str) : Prop :=
  ∀ (n : Nat), HtLe R n x → ∀ (base : Nat), base + t.length ≤ sizeLine → ∀ (A : Around) (g : List Code) (E : Value → Shared → Prop) (ps : List (Addr × Obj)) (s : Shared) (Q : Str → Shared → Prop), A.guards = some g → Above R n g → AO fr j d A → J ps s →
    (∀ s', J ps s' → Q t s') → wpAny (model prog w) A (pyReprUnder base x) Q E s
section
variable {prog : Program} {w : World} {J : List (Addr × Obj) → Shared → Prop} {R : Addr → Obj → Prop} {fr : Option (List PySem.Env)} {j d : Nat}
theorem RJ.level_le {x : Value} {t : Str} {d' : Nat} (h : RJ prog w J R fr j d x t) (hd : d ≤ d') : RJ prog w J R fr j d' x t :=
  fun n hn base hz A g E ps s Q hg hcl hu j0 hQ => h n hn base hz A g E ps s Q hg hcl (hu.le hd) j0 hQ
theorem under_loop {A : Around} {args : Args} : (A.under (.builtin "list.__repr__.loop" args)).frames = A.frames ∧ (A.under (.builtin "list.__repr__.loop" args)).depth = A.depth + 1 := by
  constructor
  · first | rfl | simp [Around.under, Code.envs, pushEnvs]
  · first | rfl | simp [Around.under, Code.weight, Code.isCreation, Code.isGuard, Code.isCaller, Code.frames, Code.isFrame, guardIds]
variable {A : Around} {Z : Result → Shared → Prop} {ps : List (Addr × Obj)}
theorem list_loopJ (jo : JOk J R) {a P : Addr} {items : Array Value} {ts : List Str} {base m na : Nat} {oa : Obj} {g : List Code} (hg : A.guards = some g) (hcl : Above R m g) (hm : ¬ HtLe R m (.ref a)) (hu : AO fr j (d + 1) A) (hra : R a oa) (hda : oa.data = .seq items na) (hlen : ts.length = items.size)
    (hT : ∀ (i : Nat) (x : Value), items[i]? = some x → HtLe R m x ∧ ∃ t, ts[i]? = some t ∧ RJ prog w J R fr j d x t)
    (hsz : base + (listText ts).length ≤ sizeLine) :
    ∀ (k i : Nat) (s : Shared) (acc : Array Value) (c : Nat) (done : List (Str × Tok)), items.size - i = k → i ≤ items.size → J ((P, LO acc c) :: ps) s → acc.toList = strValues done → done.map (·.1) = ts.take i →
    (∀ s' u, J ps s' → Z (.ok (.ret (.str (listText ts) u))) s') →
    codeAny (model prog w) A (.builtin "list.__repr__.loop" ⟨[.ref a, rawInt i, .ref P, rawInt ((base + piled (ts.take i) : Nat) : Int)], []⟩) Z s := by
  have hX : (listText ts).length = (textFrom 0 "[" ts).length + 1 := by
    show (textFrom 0 "[" ts ++ "]").length = _
    rw [strLen_append]; rfl
  have hL := textFrom_len ts 0 "["
  have hsz1 : items.size ≤ sizeLine := by
    have h1 := hL.1
    rw [if_neg (Nat.lt_irrefl 0)] at h1
    omega
  have hsz2 : ∀ t ∈ ts, t.length ≤ sizeLine := fun t ht => by
    have h2 := hL.2.1 t ht
    omega
  have hsz3 : (listText ts).length ≤ sizeLine := by omega
  have hp3 := piled_le_listText ts
  intro k
  induction k with
  | zero =>
    intro i s acc c done hk hi j0 hacc hdone hR
    have hin : i = items.size := by omega
    refine codeAny_builtin F.entry_list_repr_loop ?_
    show wpAny _ _ («list.__repr__.loop» ⟨[.ref a, .int i 0, .ref P, .int ((base + piled (ts.take i) : Nat) : Int) 0], []⟩) _ _ s
    rw [repr_loop_tree]
    refine wpAny_bind (wpAny_listItems (jo.rd j0 hra) hda ?_)
    have hnone : items[(i : Int).toNat]? = none := by simp [hin]
    simp only [hnone]
    unfold reprEnd
    refine wpAny_bind (wpAny_listItems (jo.pin j0) rfl ?_)
    rw [hacc, repr_fold]
    refine wpAny_bind (wpAny_pure ?_)
    have hall : done.map (·.1) = ts := by rw [hdone, hin, ← hlen, List.take_length]
    rw [hall]
    refine wpAny_bind (wpAny_mkStr (wpAny_pure ?_) hsz3)
    exact hR _ _ (jo.keep (jo.drop j0) fun _ _ e => e)
  | succ k ih =>
    intro i s acc c done hk hi j0 hacc hdone hR
    have hlt : i < items.size := by omega
    obtain ⟨hht, t, ht, hrep⟩ := hT i items[i] (by simp [hlt])
    have hp1 := piled_take_succ ht
    have hp2 := piled_take_le ts (i + 1)
    refine codeAny_builtin F.entry_list_repr_loop ?_
    show wpAny _ _ («list.__repr__.loop» ⟨[.ref a, .int i 0, .ref P, .int ((base + piled (ts.take i) : Nat) : Int) 0], []⟩) _ _ s
    rw [repr_loop_tree]
    refine wpAny_bind (wpAny_listItems (jo.rd j0 hra) hda ?_)
    have hsome : items[(i : Int).toNat]? = some items[i] := by simp [hlt]
    simp only [hsome]
    rw [Int.toNat_natCast]
    refine wpAny_bind (wpAny_holding (hrep m hht (base + piled (ts.take i) + 1) (by omega) _ _ _ _ _ _ (guards_under_guard (isGuard_list_loop _) hg) (hcl.cons hm) (hu.under under_loop.1 under_loop.2 (units_under_list_loop _ _)) j0 fun s' j1 => ?_))
    refine wpAny_bind (wpAny_mkStr ?_ (hsz2 t (List.mem_of_getElem? ht)))
    refine wpAny_bind ?_
    show wpAny _ _ (updateSeq P _) _ _ _
    have hasz : acc.size ≤ sizeLine := by
      have e1 : acc.toList.length = acc.size := by simp
      have e2 : (strValues done).length = done.length := by simp [strValues]
      have e3 : done.length = (ts.take i).length := by rw [← hdone, List.length_map]
      have e4 : (ts.take i).length ≤ i := by rw [List.length_take]; omega
      rw [hacc] at e1; omega
    have hpin : s'.heap.get? P = some (LO acc c) := jo.pin j1
    refine wpAny_updateSeq (o := LO acc c) (n := c) hpin rfl (wpAny_pure ⟨F.quiet_list_repr_loop _, ?_⟩) hasz
    have e1 : ((i : Int) + 1) = ((i + 1 : Nat) : Int) := by omega
    have e2 : base + piled (ts.take i) + (t.length + 2) = base + piled (ts.take (i + 1)) := by omega
    rw [e1, e2]
    have hup := Heap.get?_update_self (Obj.mapSeq fun xs => xs.push (.str t s'.toks)) (jo.pin j1) rfl
    exact ih (i + 1) _ (acc.push (.str t s'.toks)) _ (done ++ [(t, s'.toks)]) (by omega) hlt (jo.upd (s := s') (tk := s'.toks + 1) j1 (fun b o hb e => (Heap.get?_update_other _ _ (fun h : P = b => hb h.symm)).trans e) hup) (by simp [hacc, strValues]) (by simp [List.take_add_one, ht, hdone]) hR
theorem list_reprAtJ (jo : JOk J R) {a : Addr} {oa : Obj} {x : Value} {l : List Value} {na m base : Nat} {ts : List Str} {g : List Code} {s : Shared} (hra : R a oa) (hda : oa.data = .seq (x :: l).toArray na) (hlen : ts.length = (x :: l).toArray.size)
    (hT : ∀ (i : Nat) (y : Value), (x :: l).toArray[i]? = some y → HtLe R m y ∧ ∃ t, ts[i]? = some t ∧ RJ prog w J R fr j d y t)
    (hg : A.guards = some g) (hcl : Above R m g) (hm : ¬ HtLe R m (.ref a)) (hca : Clear g a) (hu : AO fr j (d + 1) A) (j0 : J ps s)
    (hR : ∀ s' u, J ps s' → Z (.ok (.ret (.str (listText ts) u))) s') (hsz : base + (listText ts).length ≤ sizeLine) :
    wpAny (model prog w) A.in1 (Builtin.listReprAt base ⟨[.ref a], []⟩) (fun fin s' => match fin with | .done f => Z (.ok f) s' | .again c' => c'.quiet = true ∧ codeAny (model prog w) A c' Z s') (fun e s' => Z (.error e) s') s := by
  refine wpAny_list_repr_head (A := A.in1) hg (fun v rest kw hm => listSameRef_of_ne (hca _ _ _ _ hm)) (jo.rd j0 hra) hda ?_
  refine wpAny_bind (m := newList []) (wpAny_newObj_type ?_)
  refine wpAny_pure ⟨F.quiet_list_repr_loop _, ?_⟩
  exact list_loopJ (P := s.heap.objs.size) jo hg hcl hm hu hra hda hlen hT hsz _ 0 _ #[] _ [] rfl (Nat.zero_le _)
    (jo.push (tk := s.toks) j0 (fun b o e => Heap.get?_push_of_some _ e) (Nat.le_refl _) (Heap.get?_push_size _ rfl)) rfl (by simp) hR
theorem RJ.list (jo : JOk J R) {a : Addr} {oa : Obj} {l : List Value} {na : Nat} {ts : List Str} (hra : R a oa) (hc : oa.cls = .type "list") (hda : oa.data = .seq l.toArray na) (hlen : ts.length = l.length)
    (hT : ∀ (i : Nat) (y : Value), l[i]? = some y → ∃ t, ts[i]? = some t ∧ RJ prog w J R fr j d y t) : RJ prog w J R fr j (d + 1) (.ref a) (listText ts) := by
  intro n hn base hb A g E ps s Q hg hcl hu j0 hQ
  have hT0 : s.TypeIs (.ref a) "list" := ⟨oa, jo.rd j0 hra, hc⟩
  cases l with
  | nil =>
    obtain rfl : ts = [] := List.eq_nil_of_length_eq_zero hlen
    rw [listText_nil] at hQ
    exact wpAny_pyReprUnder_ref (by omega) (wpAny_pyReprObjUnder_list_empty hT0 (by have := hu.lt; omega) (jo.rd j0 hra) hda ⟨_, _, rfl, hQ _ (jo.keep j0 fun _ _ e => e)⟩)
  | cons x l =>
    obtain ⟨m, lm, hm, q⟩ := hn.least
    have kids : kidsO oa = x :: l := by simp [kidsO, hda]
    rcases q with rfl | ⟨k, rfl, nk⟩
    · have := hm a oa rfl hra
      rw [kids] at this
      cases this
    · have hk : ∀ y ∈ x :: l, HtLe R k y := fun y hy => hm a oa rfl hra y (by rw [kids]; exact hy)
      have ab := hcl.mono lm
      have body := list_reprAtJ (prog := prog) (w := w) (fr := fr) (j := j) (d := d) (A := A) (Z := callEnd (fun v s' => (∃ x u, v = .str x u) ∧ ∃ x u, v = .str x u ∧ Q x s') E) (ps := ps) (base := base) jo hra hda (by simpa using hlen) (fun i y e => ⟨hk y (List.mem_of_getElem? (by simpa using e)), hT i y (by simpa using e)⟩) hg (ab.mono (Nat.le_succ k)) nk (ab.clear hm) hu j0 (fun s' u j1 => ⟨⟨_, _, rfl⟩, _, _, rfl, hQ s' j1⟩) hb
      exact wpAny_pyReprUnder_ref (by omega) (wpAny_pyReprObjUnder_twin (twin := "list.__repr__.under") hT0 F.slot_list_repr.toG rfl (by have := hu.lt; omega)
        (call_twin_plain F.plain_list_repr_under F.entry_list_repr_under F.check_list_repr_under hT0 F.slot_list_repr.toG (F.args_list_repr_1 _) body))
inductive RJs (prog : Program) (w : World) (J : List (Addr × Obj) → Shared → Prop) (R : Addr → Obj → Prop) (fr : Option (List PySem.Env)) (j d : Nat) : List Value → List Str → Prop
  | nil : RJs prog w J R fr j d [] []
  | cons {x : Value} {t : Str} {l : List Value} {ts : List Str} : RJ prog w J R fr j d x t → RJs prog w J R fr j d l ts → RJs prog w J R fr j d (x :: l) (t :: ts)
theorem RJs.length_eq : ∀ {l : List Value} {ts : List Str}, RJs prog w J R fr j d l ts → ts.length = l.length
  | _, _, .nil => rfl
  | _, _, .cons _ h => by simp [h.length_eq]
theorem RJs.item : ∀ {l : List Value} {ts : List Str}, RJs prog w J R fr j d l ts → ∀ (i : Nat) (y : Value), l[i]? = some y → ∃ t, ts[i]? = some t ∧ RJ prog w J R fr j d y t
  | _, _, .nil, _, _, e => by simp at e
  | _, _, .cons hx _, 0, _, e => by
    simp at e
    subst e
    exact ⟨_, rfl, hx⟩
  | _, _, .cons _ hl, i + 1, y, e => by
    obtain ⟨t, ht, hk⟩ := hl.item i y (by simpa using e)
    exact ⟨t, by simpa using ht, hk⟩
theorem RJs.more_le {d' : Nat} (hd : d ≤ d') : ∀ {l : List Value} {ts : List Str}, RJs prog w J R fr j d l ts → RJs prog w J R fr j d' l ts
  | _, _, .nil => .nil
  | _, _, .cons hx hl => .cons (hx.level_le hd) (hl.more_le hd)
theorem tupFoldJ {E : Value → Shared → Prop} {g : List Code} {m : Nat} (hg : A.guards = some g) (hcl : Above R m g) (hu : AO fr j d A) : ∀ (l : List Value) (ts : List Str) (acc : Array Str) (n : Nat) (s : Shared) (Q : (Array Str × Nat) → Shared → Prop), RJs prog w J R fr j d l ts → (∀ x ∈ l, HtLe R m x) → n + piled ts ≤ sizeLine →
    J ps s → (∀ s', J ps s' → Q ⟨acc ++ ts.toArray, n + piled ts⟩ s') → wpAny (model prog w) A (forIn l (⟨acc, n⟩ : (Array Str × Nat)) tupBody) Q E s := by
  intro l
  induction l with
  | nil =>
    intro ts acc n s Q hT _ _ j0 h
    cases hT
    have h0 := h s j0
    simp only [List.forIn_nil]
    exact wpAny_pure (by simpa [piled] using h0)
  | cons x l ih =>
    intro ts acc n s Q hT hk hn j0 h
    cases hT with
    | cons hx hl =>
      rename_i t ts'
      rw [piled_cons] at hn
      rw [List.forIn_cons]
      refine wpAny_bind (wpAny_bind (hx m (hk x (List.mem_cons_self ..)) (n + 1) (by omega) _ _ _ _ _ _ hg hcl hu j0 fun s1 j1 => wpAny_pure ?_))
      refine ih ts' (acc.push t) (n + (t.length + 2)) _ Q hl (fun y hy => hk y (List.mem_cons_of_mem _ hy)) (by omega) j1 fun s2 j2 => ?_
      have h1 := h s2 j2
      have e : n + piled (t :: ts') = n + (t.length + 2) + piled ts' := by rw [piled_cons]; omega
      rw [e] at h1
      simpa using h1
theorem tup_reprAtJ (jo : JOk J R) {a : Addr} {o : Obj} {items : Array Value} {n m base : Nat} {ts : List Str} {g : List Code} {s : Shared} {id : String} {rest : List Value} (hra : R a o) (hd : o.data = .seq items n) (hT : RJs prog w J R fr j d items.toList ts) (hk : ∀ x ∈ items.toList, HtLe R m x)
    (hcg : (Code.builtin id ⟨.ref a :: rest, []⟩).isGuard = true) (hao : AO fr j d (A.under (.builtin id ⟨.ref a :: rest, []⟩)))
    (hg : A.guards = some g) (hcl : Above R m g) (hm : items.toList ≠ [] → ¬ HtLe R m (.ref a)) (hca : Clear g a) (j0 : J ps s)
    (hR : ∀ s' u, J ps s' → Z (.ok (.ret (.str (tupleText ts) u))) s') (hsz : base + (tupleText ts).length ≤ sizeLine) :
    wpOwn (model prog w) A (.builtin id ⟨.ref a :: rest, []⟩) (Builtin.tupleReprAt base ⟨[.ref a], []⟩) (fun fin s' => match fin with | .done f => Z (.ok f) s' | .again c' => c'.quiet = true ∧ codeAny (model prog w) A c' Z s') (fun e s' => Z (.error e) s') s := by
  have hlen : ts.length = items.size := by simpa using hT.length_eq
  have hp := piled_le_tupleText ts
  have hsz0 : (tupleText ts).length ≤ sizeLine := by omega
  rw [tuple_repr_tree, tupleReprUnderWay_eq]
  refine wpOwn_bind (wpOwn_stackTailAny hg (tupGuardF_off _) (tupGuardF_pos _) ?_)
  have hn : (g.any fun c => tupGuardF (.ref a) (c, default)) = false := by
    rw [List.any_eq_false]
    intro c hcm
    rw [tupGuardF_of_clear hca c hcm]
    exact Bool.false_ne_true
  rw [hn]
  refine wpOwn_of_wpAny ?_
  show wpAny _ _ (tupleReprRest base (.ref a)) _ _ s
  unfold tupleReprRest Builtin.Tuple.tupleItemsOf
  refine wpAny_bind (wpAny_bind (wpAny_seqItems (jo.rd j0 hra) hd (wpAny_pure ?_)))
  rw [← Array.forIn_toList]
  have fin : ∀ s', J ps s' → wpAny (model prog w) (A.under (.builtin id ⟨.ref a :: rest, []⟩)) (retStr (tupleText ts)) (fun fin s' => match fin with | .done f => Z (.ok f) s' | .again c' => c'.quiet = true ∧ codeAny (model prog w) A c' Z s') (fun e s' => Z (.error e) s') s' := fun s' j1 =>
    wpAny_bind (wpAny_mkStr (wpAny_pure (hR _ _ (jo.keep j1 fun _ _ e => e))) hsz0)
  by_cases hne : items.toList = []
  · rw [hne] at hT ⊢
    cases hT
    simp only [List.forIn_nil]
    refine wpAny_bind (wpAny_pure ?_)
    have h1 := fin s j0
    have z : items.size = 0 := by simpa using hlen.symm
    simpa [tupleText, z] using h1
  · refine wpAny_bind (tupFoldJ (m := m) (guards_under_guard hcg hg) (hcl.cons (hm hne)) hao _ ts _ _ _ _ hT hk (by omega) j0 fun s' j1 => ?_)
    have h1 := fin s' j1
    simpa [tupleText, hlen] using h1
theorem under_tup {A : Around} {args : Args} : (A.under (.builtin "tuple.__repr__.under" args)).frames = A.frames ∧ (A.under (.builtin "tuple.__repr__.under" args)).depth = A.depth + 1 := by
  constructor
  · first | rfl | simp [Around.under, Code.envs, pushEnvs]
  · first | rfl | simp [Around.under, Code.weight, Code.isCreation, Code.isGuard, Code.isCaller, Code.frames, Code.isFrame, guardIds]
theorem under_dict {A : Around} {args : Args} : (A.under (.builtin "dict.__repr__.under" args)).frames = A.frames ∧ (A.under (.builtin "dict.__repr__.under" args)).depth = A.depth + 1 := by
  constructor
  · first | rfl | simp [Around.under, Code.envs, pushEnvs]
  · first | rfl | simp [Around.under, Code.weight, Code.isCreation, Code.isGuard, Code.isCaller, Code.frames, Code.isFrame, guardIds]
theorem RJ.tuple (jo : JOk J R) {a : Addr} {oa : Obj} {items : Array Value} {na : Nat} {ts : List Str} (hra : R a oa) (hc : oa.cls = .type "tuple") (hda : oa.data = .seq items na)
    (hT : RJs prog w J R fr j d items.toList ts) : RJ prog w J R fr j (d + 1) (.ref a) (tupleText ts) := by
  intro n hn base hb A g E ps s Q hg hcl hu j0 hQ
  have hT0 : s.TypeIs (.ref a) "tuple" := ⟨oa, jo.rd j0 hra, hc⟩
  obtain ⟨m, lm, hm, q⟩ := hn.least
  have kids : kidsO oa = items.toList := by simp [kidsO, hda]
  have ab := hcl.mono lm
  have go : ∀ k, (∀ y ∈ items.toList, HtLe R k y) → Above R k g → (items.toList ≠ [] → ¬ HtLe R k (.ref a)) → wpAny (model prog w) A (pyReprUnder base (.ref a)) Q E s := fun k hk abk hne => by
    have body := tup_reprAtJ (prog := prog) (w := w) (fr := fr) (j := j) (d := d) (A := A) (Z := callEnd (fun v s' => (∃ x u, v = .str x u) ∧ ∃ x u, v = .str x u ∧ Q x s') E) (ps := ps) (base := base) (id := "tuple.__repr__.under") (rest := [rawInt base]) jo hra hda hT hk (isGuard_tuple_repr_under _)
      (hu.under under_tup.1 under_tup.2 (units_under_tuple_repr_under _ _)) hg abk hne (ab.clear hm) j0 (fun s' u j1 => ⟨⟨_, _, rfl⟩, _, _, rfl, hQ s' j1⟩) hb
    exact wpAny_pyReprUnder_ref (by omega) (wpAny_pyReprObjUnder_twin (twin := "tuple.__repr__.under") hT0 F.slot_tuple_repr rfl (by have := hu.lt; omega)
      (call_twin_own (F.quiet_tuple_repr_under _) F.entry_tuple_repr_under F.check_tuple_repr_under hT0 F.slot_tuple_repr (F.args_tuple_repr_1 _) body))
  rcases q with rfl | ⟨k, rfl, nk⟩
  · have h0 := hm a oa rfl hra
    rw [kids] at h0
    exact go 0 (fun y hy => by rw [h0] at hy; cases hy) (ab.mono (Nat.zero_le _)) fun z => absurd h0 z
  · exact go k (fun y hy => hm a oa rfl hra y (by rw [kids]; exact hy)) (ab.mono (Nat.le_succ k)) fun _ => nk
inductive RJe (prog : Program) (w : World) (J : List (Addr × Obj) → Shared → Prop) (R : Addr → Obj → Prop) (fr : Option (List PySem.Env)) (j d : Nat) : List DictEntry → List Str → Prop
  | nil : RJe prog w J R fr j d [] []
  | cons {e : DictEntry} {k v : Str} {es : List DictEntry} {qs : List Str} : RJ prog w J R fr j d e.key k → RJ prog w J R fr j d e.val v → RJe prog w J R fr j d es qs → RJe prog w J R fr j d (e :: es) ((k ++ ": " ++ v) :: qs)
theorem RJe.length_eq : ∀ {es : List DictEntry} {qs : List Str}, RJe prog w J R fr j d es qs → qs.length = es.length
  | _, _, .nil => rfl
  | _, _, .cons _ _ h => by simp [h.length_eq]
theorem RJe.item : ∀ {es : List DictEntry} {qs : List Str}, RJe prog w J R fr j d es qs → ∀ (i : Nat) (e : DictEntry), es[i]? = some e → ∃ k v : Str, qs[i]? = some (k ++ ": " ++ v) ∧ RJ prog w J R fr j d e.key k ∧ RJ prog w J R fr j d e.val v
  | _, _, .nil, _, _, q => by simp at q
  | _, _, .cons hk hv _, 0, _, q => by
    simp at q
    subst q
    exact ⟨_, _, rfl, hk, hv⟩
  | _, _, .cons _ _ hl, i + 1, e, q => by
    obtain ⟨k, v, hp, r1, r2⟩ := hl.item i e (by simpa using q)
    exact ⟨k, v, by simpa using hp, r1, r2⟩
theorem dict_reprAtJ (jo : JOk J R) {a : Addr} {o : Obj} {es : Array DictEntry} {n m base : Nat} {qs : List Str} {g : List Code} {s : Shared} {id : String} {rest : List Value} (hra : R a o) (hc : o.cls = .type "dict") (hd : o.data = .dict es n) (hsys : (a == sysModules) = false) (hE : RJe prog w J R fr j d es.toList qs)
    (hk : ∀ e ∈ es.toList, HtLe R m e.key ∧ HtLe R m e.val) (hcg : (Code.builtin id ⟨.ref a :: rest, []⟩).isGuard = true) (hao : AO fr j d (A.under (.builtin id ⟨.ref a :: rest, []⟩)))
    (hg : A.guards = some g) (hcl : Above R m g) (hm : es.toList ≠ [] → ¬ HtLe R m (.ref a)) (hca : Clear g a) (j0 : J ps s)
    (hR : ∀ s' u, J ps s' → Z (.ok (.ret (.str (dictText qs) u))) s') (hsz : base + (dictText qs).length ≤ sizeLine) :
    wpOwn (model prog w) A (.builtin id ⟨.ref a :: rest, []⟩) (Builtin.dictReprAt base ⟨[.ref a], []⟩) (fun fin s' => match fin with | .done f => Z (.ok f) s' | .again c' => c'.quiet = true ∧ codeAny (model prog w) A c' Z s') (fun e s' => Z (.error e) s') s := by
  have hTy : s.TypeIs (.ref a) "dict" := ⟨o, jo.rd j0 hra, hc⟩
  have hlen : qs.length = es.size := by simpa using hE.length_eq
  have hp3 := piled_le_dictText qs
  have hsz0 : (dictText qs).length ≤ sizeLine := by omega
  unfold Builtin.dictReprAt
  refine wpOwn_bind (wpOwn_of_wpAny ?_)
  unfold Builtin.Dict.dictSlotNone
  refine wpAny_bind (wpAny_notOrdered_dict hTy ?_)
  show wpAny _ _ (pure (Value.ref a)) _ _ s
  refine wpAny_pure ?_
  rw [dictReprRunning_eq]
  refine wpOwn_bind (wpOwn_stackTailAny hg (dictGuardF_off _) (dictGuardF_pos _) ?_)
  have hn : (g.any fun c => dictGuardF (.ref a) (c, default)) = false := by
    rw [List.any_eq_false]
    intro c hcm
    rw [dictGuardF_of_clear hca c hcm]
    exact Bool.false_ne_true
  rw [hn]
  refine wpOwn_of_wpAny ?_
  show wpAny _ _ (Builtin.Dict.addrOf (.ref a) >>= _) _ _ s
  refine wpAny_bind (wpAny_pure ?_)
  show wpAny _ _ (Builtin.Dict.showsAll a >>= _) _ _ s
  unfold Builtin.Dict.showsAll
  rw [if_neg (by rw [hsys]; exact Bool.false_ne_true)]
  refine wpAny_bind (wpAny_pure ?_)
  refine wpAny_bind (wpAny_dictEpoch (jo.rd j0 hra) hd ?_)
  refine wpAny_bind (wpAny_dictEntries (jo.rd j0 hra) hd ?_)
  refine wpAny_bind ?_
  rw [Std.Legacy.Range.forIn_eq_forIn_range']
  simp only [Std.Legacy.Range.size, Nat.sub_zero, Nat.add_sub_cancel, Nat.div_one]
  refine wpAny_forIn_list _
    (fun rest' r s' => ∃ i, rest' = List.range' i (es.size - i) ∧ i ≤ es.size ∧ r = (⟨(qs.take i).toArray, base + piled (qs.take i)⟩ : (Array Str × Nat)) ∧ J ps s')
    _ ?_ ?_ _ _ ⟨0, by simp, Nat.zero_le _, by simp [piled], j0⟩
  · rintro x rest' _ s' ⟨i, hr, hi, rfl, j1⟩
    have hlt : i < es.size := by
      rcases Nat.lt_or_ge i es.size with h | h
      · exact h
      · rw [Nat.sub_eq_zero_of_le h] at hr; simp at hr
    obtain ⟨rfl, hrest⟩ : x = i ∧ rest' = List.range' (i + 1) (es.size - (i + 1)) := by
      have e : es.size - i = (es.size - (i + 1)) + 1 := by omega
      rw [e, List.range'_succ] at hr
      injection hr with h1 h2
      exact ⟨h1, h2⟩
    have hmem : es[x] ∈ es.toList := by simp
    have hne : es.toList ≠ [] := fun z => by rw [z] at hmem; cases hmem
    obtain ⟨k, v, hp, rk, rv⟩ := hE.item x es[x] (by simp [hlt])
    have hpl : (k ++ ": " ++ v).length = k.length + 2 + v.length := by
      rw [strLen_append, strLen_append]; rfl
    have hp1 := piled_take_succ hp
    have hp2 := piled_take_le qs (x + 1)
    rw [hpl] at hp1
    have hg' := guards_under_guard hcg hg
    have hcl' := hcl.cons (id := id) (rest := rest) (kw := []) (hm hne)
    refine wpAny_bind (wpAny_dictEntries (jo.rd j1 hra) hd ?_)
    rw [Array.getElem?_eq_getElem hlt]
    refine wpAny_bind (wpAny_holding (wpAny_bind (rk m (hk _ hmem).1 (base + piled (qs.take x) + 1) (by omega) _ _ _ _ _ _ hg' hcl' hao j1 fun s1 j2 =>
      wpAny_bind (rv m (hk _ hmem).2 (base + piled (qs.take x) + (k.length + 3)) (by omega) _ _ _ _ _ _ hg' hcl' hao j2 fun s2 j3 => wpAny_pure ?_))))
    refine wpAny_bind (wpAny_dictEpoch (jo.rd j3 hra) hd ?_)
    rw [if_neg (by simp)]
    have e1 : (qs.take x).toArray.push (k ++ ": " ++ v) = (qs.take (x + 1)).toArray := by
      rw [List.take_add_one, hp]
      simp
    have e2 : base + piled (qs.take x) + (k.length + v.length + 4) = base + piled (qs.take (x + 1)) := by omega
    refine wpAny_pure ⟨x + 1, hrest, hlt, ?_, j3⟩
    rw [e1, e2]
  · rintro _ s' ⟨i, hr, hi, rfl, j1⟩
    have hin : i = es.size := by
      rcases Nat.lt_or_ge i es.size with h | h
      · have e : es.size - i = (es.size - (i + 1)) + 1 := by omega
        rw [e, List.range'_succ] at hr; exact nomatch hr
      · exact Nat.le_antisymm hi h
    rw [hin, ← hlen, List.take_length]
    refine wpAny_bind (wpAny_mkStr (wpAny_pure ?_) (by simpa [dictText] using hsz0))
    have h1 := hR { s' with toks := s'.toks + 1 } s'.toks (jo.keep j1 fun _ _ e => e)
    simpa [dictText] using h1
theorem RJ.dict (jo : JOk J R) {a : Addr} {oa : Obj} {es : Array DictEntry} {na : Nat} {qs : List Str} (hra : R a oa) (hc : oa.cls = .type "dict") (hda : oa.data = .dict es na) (hsys : (a == sysModules) = false)
    (hE : RJe prog w J R fr j d es.toList qs) : RJ prog w J R fr j (d + 1) (.ref a) (dictText qs) := by
  intro n hn base hb A g E ps s Q hg hcl hu j0 hQ
  have hT0 : s.TypeIs (.ref a) "dict" := ⟨oa, jo.rd j0 hra, hc⟩
  obtain ⟨m, lm, hm, q⟩ := hn.least
  have kids : kidsO oa = es.toList.map (·.key) ++ es.toList.map (·.val) := by simp [kidsO, hda]
  have ab := hcl.mono lm
  have go : ∀ k, (∀ e ∈ es.toList, HtLe R k e.key ∧ HtLe R k e.val) → Above R k g → (es.toList ≠ [] → ¬ HtLe R k (.ref a)) → wpAny (model prog w) A (pyReprUnder base (.ref a)) Q E s := fun k hk abk hne => by
    have body := dict_reprAtJ (prog := prog) (w := w) (fr := fr) (j := j) (d := d) (A := A) (Z := callEnd (fun v s' => (∃ x u, v = .str x u) ∧ ∃ x u, v = .str x u ∧ Q x s') E) (ps := ps) (base := base) (id := "dict.__repr__.under") (rest := [rawInt base]) jo hra hc hda hsys hE hk (isGuard_dict_repr_under _)
      (hu.under under_dict.1 under_dict.2 (units_under_dict_repr_under _ _)) hg abk hne (ab.clear hm) j0 (fun s' u j1 => ⟨⟨_, _, rfl⟩, _, _, rfl, hQ s' j1⟩) hb
    exact wpAny_pyReprUnder_ref (by omega) (wpAny_pyReprObjUnder_twin (twin := "dict.__repr__.under") hT0 F.slot_dict_repr rfl (by have := hu.lt; omega)
      (call_twin_own (F.quiet_dict_repr_under _) F.entry_dict_repr_under F.check_dict_repr_under hT0 F.slot_dict_repr (F.args_dict_repr_1 _) body))
  rcases q with rfl | ⟨k, rfl, nk⟩
  · have h0 := hm a oa rfl hra
    rw [kids] at h0
    have h1 : es.toList = [] := by
      have := List.append_eq_nil_iff.mp h0
      simpa using this.1
    exact go 0 (fun y hy => by rw [h1] at hy; cases hy) (ab.mono (Nat.zero_le _)) fun z => absurd h1 z
  · exact go k (fun y hy => ⟨hm a oa rfl hra _ (by rw [kids]; exact List.mem_append_left _ (List.mem_map_of_mem hy)), hm a oa rfl hra _ (by rw [kids]; exact List.mem_append_right _ (List.mem_map_of_mem hy))⟩) (ab.mono (Nat.le_succ k)) fun _ => nk
end
end PI
set_option maxHeartbeats 1000000
/-! PIRepI: repr of things that hold instances, under the invariant. -/
namespace PySem.W
open PySem
end PySem.W
namespace PI
open PySem PySem.Spec PyProof.Rows L2
abbrev Ga.dim (G : Ga) : Ga := { G with pg := false }
section
variable {X : Cx} {G : Ga} {W : WX} {k j ci : Nat} {g : Gs} {H : Hp} {pins : List (Addr × Obj)} {σ : St} {s : Shared}
/-- the objects that stay as they are -/
def RS (G : Ga) (H : Hp) (a : Addr) (o : Obj) : Prop := (∃ u, H a = some (.frz o u)) ∨ G.K.lookup a = some o
/-- pinned lists are apart from all else -/
def PinsOk (X : Cx) (pins : List (Addr × Obj)) : List (Addr × Obj) → Prop
  | [] => True
  | p :: ps => (p.1 ≠ X.env.locals ∧ p.1 ∉ X.fs ∧ X.s_0.heap.objs.size ≤ p.1 ∧ (∀ x c, X.env.cells.lookup x = some c → c ≠ p.1) ∧ (∀ q ∈ X.pn ++ (ps ++ pins), q.1 ≠ p.1)) ∧ PinsOk X pins ps
def JI (X : Cx) (pins : List (Addr × Obj)) (σ : St) (H : Hp) (ps : List (Addr × Obj)) (s : Shared) : Prop := ∃ H', Inv X (ps ++ pins) σ H' s ∧ Grow H H' ∧ PinsOk X pins ps
/-! heights and texts of values -/
variable {fr : Option (List PySem.Env)} {f : Addr} {fd : FuncData} {pl : List Str} {sem : FT} {d : Nat}
/-- what is told of a value that is shown as t -/
structure Sh (X : Cx) (G : Ga) (pins : List (Addr × Obj)) (σ : St) (H : Hp) (j d : Nat) (u : Value) (t : Str) : Prop where
  ht : HtLe (RS G H) d u
  rj : RJ X.prog X.w (JI X pins σ H) (RS G H) X.A.frames j d u t
theorem Sh.le {u : Value} {t : Str} {e : Nat} (h : Sh X G pins σ H j d u t) (l : d ≤ e) : Sh X G pins σ H j e u t := ⟨h.ht.mono l, h.rj.level_le l⟩
structure Shs (X : Cx) (G : Ga) (pins : List (Addr × Obj)) (σ : St) (H : Hp) (j d : Nat) (us : List Value) (ts : List Str) : Prop where
  ht : ∀ u ∈ us, HtLe (RS G H) d u
  rj : RJs X.prog X.w (JI X pins σ H) (RS G H) X.A.frames j d us ts
theorem Shs.cons {u : Value} {t : Str} {us : List Value} {ts : List Str} {d e : Nat} (h : Sh X G pins σ H j d u t) (hs : Shs X G pins σ H j e us ts) : Shs X G pins σ H j (max d e) (u :: us) (t :: ts) :=
  ⟨fun x hx => by
    rcases List.mem_cons.mp hx with rfl | hx
    · exact h.ht.mono (Nat.le_max_left _ _)
    · exact (hs.ht x hx).mono (Nat.le_max_right _ _), .cons (h.rj.level_le (Nat.le_max_left _ _)) (hs.rj.more_le (Nat.le_max_right _ _))⟩
theorem Shs.le {us : List Value} {ts : List Str} {d e : Nat} (h : Shs X G pins σ H j d us ts) (l : d ≤ e) : Shs X G pins σ H j e us ts := ⟨fun u hu => (h.ht u hu).mono l, h.rj.more_le l⟩
variable (hK : X.K = G.K) (h : KnS X.prog X.w G.dim X.mg X.base j ci "__repr__" pl sem f fd) (I : Inv X pins σ H s)
include hK h I
end
end PI
namespace PI
theorem FdOk.dim {G : Ga} {ci i : Nat} {f : PySem.Str} (h : FdOk G ci i f) : FdOk G.dim ci i f := ⟨h.cl, h.no, h.nm, h.inj⟩
end PI
set_option maxHeartbeats 1000000
/-! PISndY: int(text). -/
namespace PI
open PySem PySem.Spec PyProof.Rows L2
end PI
set_option maxHeartbeats 0
namespace L04
open PySem PySem.Spec PyProof.Rows L2 PI
/-! ### TooMany___init__ -/
theorem sc_TooMany___init__ : FnScope ["self", "many", "most"] ["self", "many", "most"] (defScope st_TooMany___init__) := ⟨rfl, rfl, rfl, by decide +kernel, rfl, by decide +kernel, by decide +kernel⟩
theorem o_TooMany___init__ {P : Program} {w : World} {G : Ga} {mg : Str → Option Value} {base : Heap} {f C : Addr} {fd : FuncData} (F : FunD G.K "__init__" "TooMany.__init__" (defArgs st_TooMany___init__) (defBody st_TooMany___init__) (defScope st_TooMany___init__) [] [] f fd) :
    FnOk P w G.K mg base CX0 1 f fd ["self", "many", "most"] (spX G.K C ["many", "most"]) :=
  FunD.ok (k := 0) F sc_TooMany___init__ (spX_len rfl) fun cdv A outer s H vs Q E hr hsp => ⟨_, (pss_cons (ps_ost (pv 0) (pv 1)) (pss_one (ps_ost (pv 0) (pv 2)))), xread2 hsp⟩
/-! ### Crowded___init__ -/
theorem sc_Crowded___init__ : FnScope ["self", "first", "last", "many"] ["self", "first", "last", "many"] (defScope st_Crowded___init__) := ⟨rfl, rfl, rfl, by decide +kernel, rfl, by decide +kernel, by decide +kernel⟩
theorem o_Crowded___init__ {P : Program} {w : World} {G : Ga} {mg : Str → Option Value} {base : Heap} {f C : Addr} {fd : FuncData} (F : FunD G.K "__init__" "Crowded.__init__" (defArgs st_Crowded___init__) (defBody st_Crowded___init__) (defScope st_Crowded___init__) [] [] f fd) :
    FnOk P w G.K mg base CX0 1 f fd ["self", "first", "last", "many"] (spX G.K C ["first", "last", "many"]) :=
  FunD.ok (k := 0) F sc_Crowded___init__ (spX_len rfl) fun cdv A outer s H vs Q E hr hsp => ⟨_, (pss_cons (ps_ost (pv 0) (pv 1)) (pss_cons (ps_ost (pv 0) (pv 2)) (pss_one (ps_ost (pv 0) (pv 3))))), xread3 hsp⟩
/-! ### NoText___init__ -/
theorem sc_NoText___init__ : FnScope ["self", "line"] ["self", "line"] (defScope st_NoText___init__) := ⟨rfl, rfl, rfl, by decide +kernel, rfl, by decide +kernel, by decide +kernel⟩
theorem o_NoText___init__ {P : Program} {w : World} {G : Ga} {mg : Str → Option Value} {base : Heap} {f C : Addr} {fd : FuncData} (F : FunD G.K "__init__" "NoText.__init__" (defArgs st_NoText___init__) (defBody st_NoText___init__) (defScope st_NoText___init__) [(.int 0)] [] f fd) :
    FnOk P w G.K mg base CX0 1 f fd ["self", "line"] (spX G.K C ["line"]) :=
  FunD.ok (k := 0) F sc_NoText___init__ (spX_len rfl) fun cdv A outer s H vs Q E hr hsp => ⟨_, (pss_one (ps_ost (pv 0) (pv 1))), xread1 hsp⟩
/-! ### Full___init__ -/
theorem sc_Full___init__ : FnScope ["self", "room", "shelf"] ["self", "room", "shelf"] (defScope st_Full___init__) := ⟨rfl, rfl, rfl, by decide +kernel, rfl, by decide +kernel, by decide +kernel⟩
theorem o_Full___init__ {P : Program} {w : World} {G : Ga} {mg : Str → Option Value} {base : Heap} {f C : Addr} {fd : FuncData} (F : FunD G.K "__init__" "Full.__init__" (defArgs st_Full___init__) (defBody st_Full___init__) (defScope st_Full___init__) [] [] f fd) :
    FnOk P w G.K mg base CX0 1 f fd ["self", "room", "shelf"] (spXL G.K C ["room", "shelf"]) :=
  FunD.ok (k := 0) F sc_Full___init__ (spXL_len rfl) fun cdv A outer s H vs Q E hr hsp => ⟨_, (pss_cons (ps_ostL (pv 0) (pv 1)) (pss_one (ps_ostL (pv 0) (pv 2)))), xreadL2 hsp⟩
/-! ### Gone___init__ -/
theorem sc_Gone___init__ : FnScope ["self", "number", "fate"] ["self", "number", "fate"] (defScope st_Gone___init__) := ⟨rfl, rfl, rfl, by decide +kernel, rfl, by decide +kernel, by decide +kernel⟩
theorem o_Gone___init__ {P : Program} {w : World} {G : Ga} {mg : Str → Option Value} {base : Heap} {f C : Addr} {fd : FuncData} (F : FunD G.K "__init__" "Gone.__init__" (defArgs st_Gone___init__) (defBody st_Gone___init__) (defScope st_Gone___init__) [] [] f fd) :
    FnOk P w G.K mg base CX0 1 f fd ["self", "number", "fate"] (spXL G.K C ["number", "fate"]) :=
  FunD.ok (k := 0) F sc_Gone___init__ (spXL_len rfl) fun cdv A outer s H vs Q E hr hsp => ⟨_, (pss_cons (ps_ostL (pv 0) (pv 1)) (pss_one (ps_ostL (pv 0) (pv 2)))), xreadL2 hsp⟩
/-! ### Kept___init__ -/
theorem sc_Kept___init__ : FnScope ["self", "number", "others"] ["self", "number", "others"] (defScope st_Kept___init__) := ⟨rfl, rfl, rfl, by decide +kernel, rfl, by decide +kernel, by decide +kernel⟩
theorem o_Kept___init__ {P : Program} {w : World} {G : Ga} {mg : Str → Option Value} {base : Heap} {f C : Addr} {fd : FuncData} (F : FunD G.K "__init__" "Kept.__init__" (defArgs st_Kept___init__) (defBody st_Kept___init__) (defScope st_Kept___init__) [] [] f fd) :
    FnOk P w G.K mg base CX0 1 f fd ["self", "number", "others"] (spXL G.K C ["number", "others"]) :=
  FunD.ok (k := 0) F sc_Kept___init__ (spXL_len rfl) fun cdv A outer s H vs Q E hr hsp => ⟨_, (pss_cons (ps_ostL (pv 0) (pv 1)) (pss_one (ps_ostL (pv 0) (pv 2)))), xreadL2 hsp⟩
/-! ### is_whole -/
theorem sc_is_whole : FnScope ["thing"] ["thing"] (defScope st_is_whole) := ⟨rfl, rfl, rfl, by decide +kernel, rfl, by decide +kernel, by decide +kernel⟩
theorem o_is_whole {P : Program} {w : World} {G : Ga} {mg : Str → Option Value} {base : Heap} {f : Addr} {fd : FuncData} (F : FunD G.K "is_whole" "is_whole" (defArgs st_is_whole) (defBody st_is_whole) (defScope st_is_whole) [] [] f fd)
    (n_bool : mg "bool" = none) (n_int : mg "int" = none) (n_isinstance : mg "isinstance" = none) :
    FnI P w G mg base 1 f fd ["thing"] m_is_whole :=
  FnI.of F sc_is_whole fun cdv A outer s H E c => (okOne (okRet (okAndV (okB (ok_isi c.toXJ) n_isinstance (by decide +kernel) (okAPCons (okPLoc 0) (okAPCons (okPOf (okTy n_int (by decide +kernel))) okAPNil))) (okOneV (okNotV (okB (ok_isi c.toXJ) n_isinstance (by decide +kernel) (okAPCons (okPLoc 0) (okAPCons (okPOf (okTy n_bool (by decide +kernel))) okAPNil))))))))
/-! ### is_within -/
theorem sc_is_within : FnScope ["thing", "least", "most"] ["thing", "least", "most"] (defScope st_is_within) := ⟨rfl, rfl, rfl, by decide +kernel, rfl, by decide +kernel, by decide +kernel⟩
theorem o_is_within {P : Program} {w : World} {G : Ga} {mg : Str → Option Value} {base : Heap} {f : Addr} {fd : FuncData} (F : FunD G.K "is_within" "is_within" (defArgs st_is_within) (defBody st_is_within) (defScope st_is_within) [] [] f fd)
    {f_is_whole : Addr} {d_is_whole : FuncData} (k_is_whole : Kn P w G mg base 1 "is_whole" ["thing"] m_is_whole f_is_whole d_is_whole) (b_is_whole_1 : Bd G d_is_whole ["thing"] []) :
    FnI P w G mg base 2 f fd ["thing", "least", "most"] m_is_within :=
  FnI.of F sc_is_within fun cdv A outer s H E c => (okOne (okRet (okAndV (okCallB c k_is_whole b_is_whole_1 (okACons (okUse (okLoc 0)) okANil) (lenCons lenNil)) (okOneV (okChainV (ok_le c.toXJ) (ok_le c.toXJ) (okPLoc 1) (okPLoc 0) (okPLoc 2))))))
/-! ### is_word -/
theorem sc_is_word : FnScope ["thing", "least", "sign"] ["thing", "least"] (defScope st_is_word) := ⟨rfl, rfl, rfl, by decide +kernel, rfl, by decide +kernel, by decide +kernel⟩
theorem o_is_word {P : Program} {w : World} {G : Ga} {mg : Str → Option Value} {base : Heap} {f : Addr} {fd : FuncData} (F : FunD G.K "is_word" "is_word" (defArgs st_is_word) (defBody st_is_word) (defScope st_is_word) [(.int 1)] [] f fd)
    {v_LETTERS : V} {u_LETTERS : Value} (c_LETTERS : mg "LETTERS" = some u_LETTERS ∧ RelV v_LETTERS u_LETTERS ∧ ∀ g H, Is G g H (.str [97, 98, 99, 100, 101, 102, 103, 104, 105, 106, 107, 108, 109, 110, 111, 112, 113, 114, 115, 116, 117, 118, 119, 120, 121, 122]) v_LETTERS) {v_MOST_SIGNS : V} {u_MOST_SIGNS : Value} (c_MOST_SIGNS : mg "MOST_SIGNS" = some u_MOST_SIGNS ∧ RelV v_MOST_SIGNS u_MOST_SIGNS ∧ ∀ g H, Is G g H (.int 8) v_MOST_SIGNS) (n_all : mg "all" = none) (n_isinstance : mg "isinstance" = none) (n_len : mg "len" = none) (n_str : mg "str" = none) :
    FnI P w G mg base 1 f fd ["thing", "least"] m_is_word :=
  FnI.of F sc_is_word fun cdv A outer s H E c => (okSeq (okIf (okW (okOr (okNot (okTru c.K (okPOf (okB (ok_isi c.toXJ) n_isinstance (by decide +kernel) (okAPCons (okPLoc 0) (okAPCons (okPOf (okTy n_str (by decide +kernel))) okAPNil)))))) (okOr1 (okNot (okChain (ok_le c.toXJ) (ok_le c.toXJ) (okPLoc 1) (okPOf (okB (ok_len c.toXJ) n_len (by decide +kernel) (okAPCons (okPLoc 0) okAPNil))) (okPOf (okGlo c_MOST_SIGNS.1 c_MOST_SIGNS.2.1 c_MOST_SIGNS.2.2))))))) (okOne (okRet okBl)) okNil)
    (okOne (okRet (okB (ok_all c) n_all (by decide +kernel) (okAPCons (okPOf (okLcE (own := [("sign", 2)]) c (okISeq c.toXJ (okLoc 0)) (⟨rfl, by decide +kernel, by decide +kernel, by decide +kernel, by decide +kernel⟩ : BlkOk ["thing", "least", "sign"] (defScope st_is_word) _ _) (fun s2 H2 C2 cl2 fp2 => (okGNm (c.blk s2 H2 _ _ fp2).toXJ 2)) (by decide) (fun s2 H2 C2 cl2 fp2 => okYes) (fun s2 H2 C2 cl2 fp2 => (okUse (okCm (ok_in (c.blk s2 H2 _ _ fp2).toXJ) (okPLoc 2) (okPOf (okGlo c_LETTERS.1 c_LETTERS.2.1 c_LETTERS.2.2))))))) okAPNil)))))
/-! ### is_size -/
theorem sc_is_size : FnScope ["thing"] ["thing"] (defScope st_is_size) := ⟨rfl, rfl, rfl, by decide +kernel, rfl, by decide +kernel, by decide +kernel⟩
theorem o_is_size {P : Program} {w : World} {G : Ga} {mg : Str → Option Value} {base : Heap} {f : Addr} {fd : FuncData} (F : FunD G.K "is_size" "is_size" (defArgs st_is_size) (defBody st_is_size) (defScope st_is_size) [] [] f fd)
    {f_is_whole : Addr} {d_is_whole : FuncData} (k_is_whole : Kn P w G mg base 1 "is_whole" ["thing"] m_is_whole f_is_whole d_is_whole) (b_is_whole_1 : Bd G d_is_whole ["thing"] []) (t_SIZES : mg "SIZES" = some (.ref (He.ga G.K "SIZES")) ∧ ∀ g H, Is G g H (.tup [(.int 37), (.int 75), (.int 150)]) (.ref (He.ga G.K "SIZES"))) :
    FnI P w G mg base 2 f fd ["thing"] m_is_size :=
  FnI.of F sc_is_size fun cdv A outer s H E c => (okOne (okRet (okAndV (okCallB c k_is_whole b_is_whole_1 (okACons (okUse (okLoc 0)) okANil) (lenCons lenNil)) (okOneV (okCm (ok_in c.toXJ) (okPLoc 0) (okPOf (okGlo (v := .ref (He.ga G.K "SIZES")) t_SIZES.1 rfl t_SIZES.2)))))))
/-! ### is_year -/
theorem sc_is_year : FnScope ["thing"] ["thing"] (defScope st_is_year) := ⟨rfl, rfl, rfl, by decide +kernel, rfl, by decide +kernel, by decide +kernel⟩
theorem o_is_year {P : Program} {w : World} {G : Ga} {mg : Str → Option Value} {base : Heap} {f : Addr} {fd : FuncData} (F : FunD G.K "is_year" "is_year" (defArgs st_is_year) (defBody st_is_year) (defScope st_is_year) [] [] f fd)
    {f_is_within : Addr} {d_is_within : FuncData} (k_is_within : Kn P w G mg base 2 "is_within" ["thing", "least", "most"] m_is_within f_is_within d_is_within) (b_is_within_3 : Bd G d_is_within ["thing", "least", "most"] []) {v_FIRST_YEAR : V} {u_FIRST_YEAR : Value} (c_FIRST_YEAR : mg "FIRST_YEAR" = some u_FIRST_YEAR ∧ RelV v_FIRST_YEAR u_FIRST_YEAR ∧ ∀ g H, Is G g H (.int 1900) v_FIRST_YEAR) {v_LAST_YEAR : V} {u_LAST_YEAR : Value} (c_LAST_YEAR : mg "LAST_YEAR" = some u_LAST_YEAR ∧ RelV v_LAST_YEAR u_LAST_YEAR ∧ ∀ g H, Is G g H (.int 2100) v_LAST_YEAR) :
    FnI P w G mg base 3 f fd ["thing"] m_is_year :=
  FnI.of F sc_is_year fun cdv A outer s H E c => (okOne (okRet (okCallB c k_is_within b_is_within_3 (okACons (okUse (okLoc 0)) (okACons (okUse (okGlo c_FIRST_YEAR.1 c_FIRST_YEAR.2.1 c_FIRST_YEAR.2.2)) (okACons (okUse (okGlo c_LAST_YEAR.1 c_LAST_YEAR.2.1 c_LAST_YEAR.2.2)) okANil))) (lenCons (lenCons (lenCons lenNil))))))
/-! ### Bottle___init__ -/
theorem sc_Bottle___init__ : FnScope ["self", "maker", "year", "size"] ["self", "maker", "year", "size"] (defScope st_Bottle___init__) := ⟨rfl, rfl, rfl, by decide +kernel, rfl, by decide +kernel, by decide +kernel⟩
theorem o_Bottle___init__ {P : Program} {w : World} {G : Ga} {mg : Str → Option Value} {base : Heap} {f : Addr} {fd : FuncData} (F : FunD G.K "__init__" "Bottle.__init__" (defArgs st_Bottle___init__) (defBody st_Bottle___init__) (defScope st_Bottle___init__) [(.int 75)] [] f fd)
    {f_is_word : Addr} {d_is_word : FuncData} (k_is_word : Kn P w G mg base 3 "is_word" ["thing", "least"] m_is_word f_is_word d_is_word) {f_is_year : Addr} {d_is_year : FuncData} (k_is_year : Kn P w G mg base 3 "is_year" ["thing"] m_is_year f_is_year d_is_year) {f_is_size : Addr} {d_is_size : FuncData} (k_is_size : Kn P w G mg base 3 "is_size" ["thing"] m_is_size f_is_size d_is_size) (b_is_size_1 : Bd G d_is_size ["thing"] []) (b_is_word_1 : Bd G d_is_word ["thing", "least"] [(.int 1)]) (b_is_year_1 : Bd G d_is_year ["thing"] []) (fd_maker : FdOk G 30 10 "maker") (fd_size : FdOk G 30 12 "size") (fd_year : FdOk G 30 11 "year") (gc_NoMaker : mg "NoMaker" = some (.ref (G.ca 1))) (gc_NoSize : mg "NoSize" = some (.ref (G.ca 3))) (gc_NoYear : mg "NoYear" = some (.ref (G.ca 2))) (er_NoMaker : ExcR G.K (G.ca 1)) (er_NoSize : ExcR G.K (G.ca 3)) (er_NoYear : ExcR G.K (G.ca 2)) :
    FnI P w G mg base 4 f fd ["self", "maker", "year", "size"] m_Bottle___init__ :=
  FnI.of F sc_Bottle___init__ fun cdv A outer s H E c => (okSeq (okIf (okNot (okTru c.K (okPOf (okCallB c k_is_word b_is_word_1 (okACons (okUse (okLoc 1)) okANil) (lenCons lenNil))))) (okOne (okRaise c 1 er_NoMaker gc_NoMaker)) okNil)
    (okSeq (okIf (okNot (okTru c.K (okPOf (okCallB c k_is_year b_is_year_1 (okACons (okUse (okLoc 2)) okANil) (lenCons lenNil))))) (okOne (okRaise c 2 er_NoYear gc_NoYear)) okNil)
    (okSeq (okIf (okNot (okTru c.K (okPOf (okCallB c k_is_size b_is_size_1 (okACons (okUse (okLoc 3)) okANil) (lenCons lenNil))))) (okOne (okRaise c 3 er_NoSize gc_NoSize)) okNil)
    (okSeq (okFldP c.toXJ fd_maker (okUse (okLoc 1)) (okPLoc 0))
    (okSeq (okFldP c.toXJ fd_year (okUse (okLoc 2)) (okPLoc 0))
    (okOne (okFldP c.toXJ fd_size (okUse (okLoc 3)) (okPLoc 0))))))))
/-! ### is_bottle -/
theorem sc_is_bottle : FnScope ["thing"] ["thing"] (defScope st_is_bottle) := ⟨rfl, rfl, rfl, by decide +kernel, rfl, by decide +kernel, by decide +kernel⟩
theorem o_is_bottle {P : Program} {w : World} {G : Ga} {mg : Str → Option Value} {base : Heap} {f : Addr} {fd : FuncData} (F : FunD G.K "is_bottle" "is_bottle" (defArgs st_is_bottle) (defBody st_is_bottle) (defScope st_is_bottle) [] [] f fd)
    (hIu : IuOk G 30 31) (gc_Bottle : mg "Bottle" = some (.ref (G.ca 30))) (n_isinstance : mg "isinstance" = none) :
    FnI P w G mg base 1 f fd ["thing"] m_is_bottle :=
  FnI.of F sc_is_bottle fun cdv A outer s H E c => (okOne (okRet (okB (ok_isU c.toXJ hIu) n_isinstance (by decide +kernel) (okAPCons (okPLoc 0) (okAPCons (okPOf (okGlo (v := .ref (G.ca 30)) gc_Bottle rfl (fun _ _ => rfl))) okAPNil)))))
/-! ### age_of -/
theorem sc_age_of : FnScope ["bottle"] ["bottle"] (defScope st_age_of) := ⟨rfl, rfl, rfl, by decide +kernel, rfl, by decide +kernel, by decide +kernel⟩
theorem o_age_of {P : Program} {w : World} {G : Ga} {mg : Str → Option Value} {base : Heap} {f : Addr} {fd : FuncData} (F : FunD G.K "age_of" "age_of" (defArgs st_age_of) (defBody st_age_of) (defScope st_age_of) [] [] f fd)
    (fd_maker : FdOk G 30 10 "maker") (fd_size : FdOk G 30 12 "size") (fd_year : FdOk G 30 11 "year") :
    FnI P w G mg base 1 f fd ["bottle"] m_age_of :=
  FnI.of F sc_age_of fun cdv A outer s H E c => (okOne (okRet (okTup (okACons (okUse (okFld c.toXJ fd_year (okPLoc 0))) (okACons (okUse (okFld c.toXJ fd_maker (okPLoc 0))) (okACons (okUse (okFld c.toXJ fd_size (okPLoc 0))) okANil))))))
/-! ### are_bottles -/
theorem sc_are_bottles : FnScope ["thing", "one"] ["thing"] (defScope st_are_bottles) := ⟨rfl, rfl, rfl, by decide +kernel, rfl, by decide +kernel, by decide +kernel⟩
theorem o_are_bottles {P : Program} {w : World} {G : Ga} {mg : Str → Option Value} {base : Heap} {f : Addr} {fd : FuncData} (F : FunD G.K "are_bottles" "are_bottles" (defArgs st_are_bottles) (defBody st_are_bottles) (defScope st_are_bottles) [] [] f fd)
    {f_is_bottle : Addr} {d_is_bottle : FuncData} (k_is_bottle : Kn P w G mg base 1 "is_bottle" ["thing"] m_is_bottle f_is_bottle d_is_bottle) (b_is_bottle_1 : Bd G d_is_bottle ["thing"] []) (n_all : mg "all" = none) (n_isinstance : mg "isinstance" = none) (n_list : mg "list" = none) :
    FnI P w G mg base 2 f fd ["thing"] m_are_bottles :=
  FnI.of F sc_are_bottles fun cdv A outer s H E c => (okOne (okRet (okAndV (okB (ok_isi c.toXJ) n_isinstance (by decide +kernel) (okAPCons (okPLoc 0) (okAPCons (okPOf (okTy n_list (by decide +kernel))) okAPNil))) (okOneV (okB (ok_all c) n_all (by decide +kernel) (okAPCons (okPOf (okLcE (own := [("one", 1)]) c (okISeq c.toXJ (okLoc 0)) (⟨rfl, by decide +kernel, by decide +kernel, by decide +kernel, by decide +kernel⟩ : BlkOk ["thing", "one"] (defScope st_are_bottles) _ _) (fun s2 H2 C2 cl2 fp2 => (okGNm (c.blk s2 H2 _ _ fp2).toXJ 1)) (by decide) (fun s2 H2 C2 cl2 fp2 => okYes) (fun s2 H2 C2 cl2 fp2 => (okUse (okCallB (c.blk s2 H2 _ _ fp2) k_is_bottle b_is_bottle_1 (okACons (okUse (okLoc 1)) okANil) (lenCons lenNil)))))) okAPNil))))))
/-! ### check_bottles -/
theorem sc_check_bottles : FnScope ["bottles"] ["bottles"] (defScope st_check_bottles) := ⟨rfl, rfl, rfl, by decide +kernel, rfl, by decide +kernel, by decide +kernel⟩
theorem o_check_bottles {P : Program} {w : World} {G : Ga} {mg : Str → Option Value} {base : Heap} {f : Addr} {fd : FuncData} (F : FunD G.K "check_bottles" "check_bottles" (defArgs st_check_bottles) (defBody st_check_bottles) (defScope st_check_bottles) [] [] f fd)
    {f_are_bottles : Addr} {d_are_bottles : FuncData} (k_are_bottles : Kn P w G mg base 2 "are_bottles" ["thing"] m_are_bottles f_are_bottles d_are_bottles) (b_are_bottles_1 : Bd G d_are_bottles ["thing"] []) (gc_NoBottles : mg "NoBottles" = some (.ref (G.ca 0))) (er_NoBottles : ExcR G.K (G.ca 0)) :
    FnI P w G mg base 3 f fd ["bottles"] m_check_bottles :=
  FnI.of F sc_check_bottles fun cdv A outer s H E c => (okOne (okIf (okNot (okTru c.K (okPOf (okCallB c k_are_bottles b_are_bottles_1 (okACons (okUse (okLoc 0)) okANil) (lenCons lenNil))))) (okOne (okRaise c 0 er_NoBottles gc_NoBottles)) okNil))
/-! ### by_age -/
theorem sc_by_age : FnScope ["bottles"] ["bottles"] (defScope st_by_age) := ⟨rfl, rfl, rfl, by decide +kernel, rfl, by decide +kernel, by decide +kernel⟩
theorem o_by_age {P : Program} {w : World} {G : Ga} {mg : Str → Option Value} {base : Heap} {f : Addr} {fd : FuncData} (F : FunD G.K "by_age" "by_age" (defArgs st_by_age) (defBody st_by_age) (defScope st_by_age) [] [] f fd)
    {f_check_bottles : Addr} {d_check_bottles : FuncData} (k_check_bottles : Kn P w G mg base 3 "check_bottles" ["bottles"] m_check_bottles f_check_bottles d_check_bottles) {d_age_of : FuncData} (b_age_of_1 : Bd G d_age_of ["bottle"] []) (b_check_bottles_1 : Bd G d_check_bottles ["bottles"] []) (gf_age_of : mg "age_of" = some (.ref (G.fa 13))) (kz_age_of : KnV P w G mg base 1 1 13 m_age_of) (n_sorted : mg "sorted" = none) :
    FnI P w G mg base 4 f fd ["bottles"] m_by_age :=
  FnI.of F sc_by_age fun cdv A outer s H E c => (okSeq (okExp (okCallB c k_check_bottles b_check_bottles_1 (okACons (okUse (okLoc 0)) okANil) (lenCons lenNil)))
    (okOne (okRet (okBK (ok_sortKey c kz_age_of (by omega)) n_sorted (by decide +kernel) (okAPCons (okPLoc 0) okAPNil) (okKCons (okUse (okGlo (v := .ref (G.fa 13)) gf_age_of rfl (fun _ _ => rfl))) okKNil)))))
/-! ### _law_cell_at -/
theorem sc__law_cell_at : FnScope ["_law_script", "_law_k"] ["_law_script", "_law_k"] (defScope st__law_cell_at) := ⟨rfl, rfl, rfl, by decide +kernel, rfl, by decide +kernel, by decide +kernel⟩
theorem o__law_cell_at {P : Program} {w : World} {G : Ga} {mg : Str → Option Value} {base : Heap} {f : Addr} {fd : FuncData} (F : FunD G.K "_law_cell_at" "_law_cell_at" (defArgs st__law_cell_at) (defBody st__law_cell_at) (defScope st__law_cell_at) [] [] f fd)
    (n_len : mg "len" = none) :
    FnI P w G mg base 1 f fd ["_law_script", "_law_k"] m__law_cell_at :=
  FnI.of F sc__law_cell_at fun cdv A outer s H E c => (okSeq (okIf (okCmT (ok_lt c.toXJ) (okPLoc 1) (okPOf (okB (ok_len c.toXJ) n_len (by decide +kernel) (okAPCons (okPLoc 0) okAPNil)))) (okOne (okRet (okIx (ok_ix c.toXJ) (okPLoc 0) (okPLoc 1)))) okNil)
    (okOne (okRet okInt)))
/-! ### _law_pot -/
theorem sc__law_pot : FnScope ["_law_cell", "_law_token", "_law_j", "_law_more"] ["_law_cell"] (defScope st__law_pot) := ⟨rfl, rfl, rfl, by decide +kernel, rfl, by decide +kernel, by decide +kernel⟩
theorem o__law_pot {P : Program} {w : World} {G : Ga} {mg : Str → Option Value} {base : Heap} {f : Addr} {fd : FuncData} (F : FunD G.K "_law_pot" "_law_pot" (defArgs st__law_pot) (defBody st__law_pot) (defScope st__law_pot) [] [] f fd)
    (n_range : mg "range" = none) :
    FnI P w G mg base 1 f fd ["_law_cell"] m__law_pot :=
  FnI.of F sc__law_pot fun cdv A outer s H E c => (okSeq (okIf (okCmT (ok_ge c.toXJ) (okPLoc 0) (okPOf (ok2 ok_pow (okPOf okInt) (okPOf okInt)))) (okOne (okRet (okLst (okACons (okUse (ok2 ok_sub (okPLoc 0) (okPOf (ok2 ok_pow (okPOf okInt) (okPOf okInt))))) okANil)))) okNil)
    (okSeq (okSet c.toXJ 1 okInt)
    (okSeq (okFor c (okIR1 n_range (okAPCons (okPOf okInt) okAPNil)) (okGNm c.toXJ 2) (okSeq (okFrz (okSet c.toXJ 3 (ok2 ok_mod (okPOf (ok2 ok_mul (okPOf (ok2 (ok_add c.K) (okPOf (ok2 (ok_add c.K) (okPOf (ok2 ok_mod (okPLoc 0) (okPOf okInt))) (okPOf (ok2 ok_mul (okPOf okInt) (okPLoc 2))))) (okPOf okInt))) (okPOf okInt))) (okPOf okInt))))
    (okSeq (okFrz (okSet c.toXJ 3 (ok2 ok_mod (okPOf (ok2 (ok_add c.K) (okPOf (ok2 (ok_add c.K) (okPOf (ok2 ok_mul (okPLoc 3) (okPLoc 3))) (okPOf (ok2 ok_mul (okPOf okInt) (okPLoc 2))))) (okPOf okInt))) (okPOf okInt))))
    (okOne (okFrz (okSet c.toXJ 1 (ok2 (ok_add c.K) (okPOf (ok2 ok_mul (okPLoc 1) (okPOf okInt))) (okPLoc 3))))))))
    (okOne (okRet (okLst (okACons (okUse (okLoc 1)) okANil)))))))
/-! ### _law_take -/
theorem sc__law_take : FnScope ["_law_pot_here", "_law_far", "_law_found"] ["_law_pot_here", "_law_far"] (defScope st__law_take) := ⟨rfl, rfl, rfl, by decide +kernel, rfl, by decide +kernel, by decide +kernel⟩
theorem o__law_take {P : Program} {w : World} {G : Ga} {mg : Str → Option Value} {base : Heap} {f : Addr} {fd : FuncData} (F : FunD G.K "_law_take" "_law_take" (defArgs st__law_take) (defBody st__law_take) (defScope st__law_take) [] [] f fd)
     :
    FnI P w G mg base 1 f fd ["_law_pot_here", "_law_far"] m__law_take :=
  FnI.of F sc__law_take fun cdv A outer s H E c => (okSeq (okFrz (okSet c.toXJ 2 (ok2 ok_mod (okPOf (okIx (ok_ix c.toXJ) (okPLoc 0) (okPOf okInt))) (okPLoc 1))))
    (okSeq (okPut c.toXJ (okUse (ok2 ok_div (okPOf (okIx (ok_ix c.toXJ) (okPLoc 0) (okPOf okInt))) (okPLoc 1))) (okPLoc 0) (okUse okInt))
    (okOne (okMov 2))))
/-! ### _law_word -/
theorem sc__law_word : FnScope ["_law_e", "_law_some", "_law_words"] ["_law_e"] (defScope st__law_word) := ⟨rfl, rfl, rfl, by decide +kernel, rfl, by decide +kernel, by decide +kernel⟩
theorem o__law_word {P : Program} {w : World} {G : Ga} {mg : Str → Option Value} {base : Heap} {f : Addr} {fd : FuncData} (F : FunD G.K "_law_word" "_law_word" (defArgs st__law_word) (defBody st__law_word) (defScope st__law_word) [] [] f fd)
    (gc_Crowded : mg "Crowded" = some (.ref (G.ca 13))) (gc_HereError : mg "HereError" = some (.ref (G.ca 32))) (gc_NoBottle : mg "NoBottle" = some (.ref (G.ca 4))) (gc_NoBottles : mg "NoBottles" = some (.ref (G.ca 0))) (gc_NoDeed : mg "NoDeed" = some (.ref (G.ca 15))) (gc_NoHints : mg "NoHints" = some (.ref (G.ca 24))) (gc_NoHold : mg "NoHold" = some (.ref (G.ca 6))) (gc_NoLine : mg "NoLine" = some (.ref (G.ca 26))) (gc_NoList : mg "NoList" = some (.ref (G.ca 22))) (gc_NoLost : mg "NoLost" = some (.ref (G.ca 23))) (gc_NoMaker : mg "NoMaker" = some (.ref (G.ca 1))) (gc_NoMonth : mg "NoMonth" = some (.ref (G.ca 7))) (gc_NoNotes : mg "NoNotes" = some (.ref (G.ca 20))) (gc_NoNumber : mg "NoNumber" = some (.ref (G.ca 27))) (gc_NoOrder : mg "NoOrder" = some (.ref (G.ca 21))) (gc_NoPlace : mg "NoPlace" = some (.ref (G.ca 28))) (gc_NoRate : mg "NoRate" = some (.ref (G.ca 18))) (gc_NoRooms : mg "NoRooms" = some (.ref (G.ca 5))) (gc_NoSet : mg "NoSet" = some (.ref (G.ca 9))) (gc_NoSize : mg "NoSize" = some (.ref (G.ca 3))) (gc_NoSpan : mg "NoSpan" = some (.ref (G.ca 17))) (gc_NoSpans : mg "NoSpans" = some (.ref (G.ca 16))) (gc_NoText : mg "NoText" = some (.ref (G.ca 14))) (gc_NoWay : mg "NoWay" = some (.ref (G.ca 25))) (gc_NoWho : mg "NoWho" = some (.ref (G.ca 8))) (gc_NoWishes : mg "NoWishes" = some (.ref (G.ca 19))) (gc_NoYear : mg "NoYear" = some (.ref (G.ca 2))) (gc_TooMany : mg "TooMany" = some (.ref (G.ca 12))) (hX : XcOk G nX mroT ksT) (n_LookupError : mg "LookupError" = none) (n_ValueError : mg "ValueError" = none) (n_isinstance : mg "isinstance" = none) :
    FnX P w G mg base 1 f fd "_law_e" nX (hotOf m__law_word) :=
  FnX.of F sc__law_word fun x p dX cdv A outer s H E hx hn c => (okSeq (okFrz (okSet c.toXJ 1 (okLst (okACons (okUse (okB (ok_isX rfl hX (List.mem_singleton.mpr rfl) hx) n_isinstance (by decide +kernel) (okAPCons (okPLoc 0) (okAPCons (okPOf (okGlo (v := .ref (G.ca 1)) gc_NoMaker rfl (fun _ _ => rfl))) okAPNil)))) (okACons (okUse (okB (ok_isX rfl hX (List.mem_singleton.mpr rfl) hx) n_isinstance (by decide +kernel) (okAPCons (okPLoc 0) (okAPCons (okPOf (okGlo (v := .ref (G.ca 2)) gc_NoYear rfl (fun _ _ => rfl))) okAPNil)))) (okACons (okUse (okB (ok_isX rfl hX (List.mem_singleton.mpr rfl) hx) n_isinstance (by decide +kernel) (okAPCons (okPLoc 0) (okAPCons (okPOf (okGlo (v := .ref (G.ca 3)) gc_NoSize rfl (fun _ _ => rfl))) okAPNil)))) (okACons (okUse (okB (ok_isX rfl hX (List.mem_singleton.mpr rfl) hx) n_isinstance (by decide +kernel) (okAPCons (okPLoc 0) (okAPCons (okPOf (okGlo (v := .ref (G.ca 4)) gc_NoBottle rfl (fun _ _ => rfl))) okAPNil)))) okANil)))))))
    (okSeq (okFrz (okSet c.toXJ 1 (ok2 (ok_add c.K) (okPLoc 1) (okPOf (okLst (okACons (okUse (okB (ok_isX rfl hX (List.mem_singleton.mpr rfl) hx) n_isinstance (by decide +kernel) (okAPCons (okPLoc 0) (okAPCons (okPOf (okGlo (v := .ref (G.ca 0)) gc_NoBottles rfl (fun _ _ => rfl))) okAPNil)))) (okACons (okUse (okB (ok_isX rfl hX (List.mem_singleton.mpr rfl) hx) n_isinstance (by decide +kernel) (okAPCons (okPLoc 0) (okAPCons (okPOf (okGlo (v := .ref (G.ca 5)) gc_NoRooms rfl (fun _ _ => rfl))) okAPNil)))) (okACons (okUse (okB (ok_isX rfl hX (List.mem_singleton.mpr rfl) hx) n_isinstance (by decide +kernel) (okAPCons (okPLoc 0) (okAPCons (okPOf (okGlo (v := .ref (G.ca 6)) gc_NoHold rfl (fun _ _ => rfl))) okAPNil)))) (okACons (okUse (okB (ok_isX rfl hX (List.mem_singleton.mpr rfl) hx) n_isinstance (by decide +kernel) (okAPCons (okPLoc 0) (okAPCons (okPOf (okGlo (v := .ref (G.ca 7)) gc_NoMonth rfl (fun _ _ => rfl))) okAPNil)))) okANil)))))))))
    (okSeq (okFrz (okSet c.toXJ 1 (ok2 (ok_add c.K) (okPLoc 1) (okPOf (okLst (okACons (okUse (okB (ok_isX rfl hX (List.mem_singleton.mpr rfl) hx) n_isinstance (by decide +kernel) (okAPCons (okPLoc 0) (okAPCons (okPOf (okGlo (v := .ref (G.ca 8)) gc_NoWho rfl (fun _ _ => rfl))) okAPNil)))) (okACons (okUse (okB (ok_isX rfl hX (List.mem_singleton.mpr rfl) hx) n_isinstance (by decide +kernel) (okAPCons (okPLoc 0) (okAPCons (okPOf (okGlo (v := .ref (G.ca 9)) gc_NoSet rfl (fun _ _ => rfl))) okAPNil)))) (okACons (okUse (okB (ok_isX rfl hX (List.mem_singleton.mpr rfl) hx) n_isinstance (by decide +kernel) (okAPCons (okPLoc 0) (okAPCons (okPOf (okGlo (v := .ref (G.ca 15)) gc_NoDeed rfl (fun _ _ => rfl))) okAPNil)))) (okACons (okUse (okB (ok_isX rfl hX (List.mem_singleton.mpr rfl) hx) n_isinstance (by decide +kernel) (okAPCons (okPLoc 0) (okAPCons (okPOf (okGlo (v := .ref (G.ca 16)) gc_NoSpans rfl (fun _ _ => rfl))) okAPNil)))) okANil)))))))))
    (okSeq (okFrz (okSet c.toXJ 1 (ok2 (ok_add c.K) (okPLoc 1) (okPOf (okLst (okACons (okUse (okB (ok_isX rfl hX (List.mem_singleton.mpr rfl) hx) n_isinstance (by decide +kernel) (okAPCons (okPLoc 0) (okAPCons (okPOf (okGlo (v := .ref (G.ca 17)) gc_NoSpan rfl (fun _ _ => rfl))) okAPNil)))) (okACons (okUse (okB (ok_isX rfl hX (List.mem_singleton.mpr rfl) hx) n_isinstance (by decide +kernel) (okAPCons (okPLoc 0) (okAPCons (okPOf (okGlo (v := .ref (G.ca 18)) gc_NoRate rfl (fun _ _ => rfl))) okAPNil)))) (okACons (okUse (okB (ok_isX rfl hX (List.mem_singleton.mpr rfl) hx) n_isinstance (by decide +kernel) (okAPCons (okPLoc 0) (okAPCons (okPOf (okGlo (v := .ref (G.ca 19)) gc_NoWishes rfl (fun _ _ => rfl))) okAPNil)))) (okACons (okUse (okB (ok_isX rfl hX (List.mem_singleton.mpr rfl) hx) n_isinstance (by decide +kernel) (okAPCons (okPLoc 0) (okAPCons (okPOf (okGlo (v := .ref (G.ca 20)) gc_NoNotes rfl (fun _ _ => rfl))) okAPNil)))) okANil)))))))))
    (okSeq (okFrz (okSet c.toXJ 1 (ok2 (ok_add c.K) (okPLoc 1) (okPOf (okLst (okACons (okUse (okB (ok_isX rfl hX (List.mem_singleton.mpr rfl) hx) n_isinstance (by decide +kernel) (okAPCons (okPLoc 0) (okAPCons (okPOf (okGlo (v := .ref (G.ca 21)) gc_NoOrder rfl (fun _ _ => rfl))) okAPNil)))) (okACons (okUse (okB (ok_isX rfl hX (List.mem_singleton.mpr rfl) hx) n_isinstance (by decide +kernel) (okAPCons (okPLoc 0) (okAPCons (okPOf (okGlo (v := .ref (G.ca 22)) gc_NoList rfl (fun _ _ => rfl))) okAPNil)))) (okACons (okUse (okB (ok_isX rfl hX (List.mem_singleton.mpr rfl) hx) n_isinstance (by decide +kernel) (okAPCons (okPLoc 0) (okAPCons (okPOf (okGlo (v := .ref (G.ca 23)) gc_NoLost rfl (fun _ _ => rfl))) okAPNil)))) (okACons (okUse (okB (ok_isX rfl hX (List.mem_singleton.mpr rfl) hx) n_isinstance (by decide +kernel) (okAPCons (okPLoc 0) (okAPCons (okPOf (okGlo (v := .ref (G.ca 24)) gc_NoHints rfl (fun _ _ => rfl))) okAPNil)))) okANil)))))))))
    (okSeq (okFrz (okSet c.toXJ 1 (ok2 (ok_add c.K) (okPLoc 1) (okPOf (okLst (okACons (okUse (okB (ok_isX rfl hX (List.mem_singleton.mpr rfl) hx) n_isinstance (by decide +kernel) (okAPCons (okPLoc 0) (okAPCons (okPOf (okGlo (v := .ref (G.ca 25)) gc_NoWay rfl (fun _ _ => rfl))) okAPNil)))) (okACons (okUse (okB (ok_isX rfl hX (List.mem_singleton.mpr rfl) hx) n_isinstance (by decide +kernel) (okAPCons (okPLoc 0) (okAPCons (okPOf (okGlo (v := .ref (G.ca 26)) gc_NoLine rfl (fun _ _ => rfl))) okAPNil)))) (okACons (okUse (okB (ok_isX rfl hX (List.mem_singleton.mpr rfl) hx) n_isinstance (by decide +kernel) (okAPCons (okPLoc 0) (okAPCons (okPOf (okGlo (v := .ref (G.ca 27)) gc_NoNumber rfl (fun _ _ => rfl))) okAPNil)))) (okACons (okUse (okB (ok_isX rfl hX (List.mem_singleton.mpr rfl) hx) n_isinstance (by decide +kernel) (okAPCons (okPLoc 0) (okAPCons (okPOf (okGlo (v := .ref (G.ca 28)) gc_NoPlace rfl (fun _ _ => rfl))) okAPNil)))) okANil)))))))))
    (okSeq (okFrz (okSet c.toXJ 1 (ok2 (ok_add c.K) (okPLoc 1) (okPOf (okLst (okACons (okUse (okB (ok_isX rfl hX (List.mem_singleton.mpr rfl) hx) n_isinstance (by decide +kernel) (okAPCons (okPLoc 0) (okAPCons (okPOf (okGlo (v := .ref (G.ca 12)) gc_TooMany rfl (fun _ _ => rfl))) okAPNil)))) (okACons (okUse (okB (ok_isX rfl hX (List.mem_singleton.mpr rfl) hx) n_isinstance (by decide +kernel) (okAPCons (okPLoc 0) (okAPCons (okPOf (okGlo (v := .ref (G.ca 13)) gc_Crowded rfl (fun _ _ => rfl))) okAPNil)))) (okACons (okUse (okB (ok_isX rfl hX (List.mem_singleton.mpr rfl) hx) n_isinstance (by decide +kernel) (okAPCons (okPLoc 0) (okAPCons (okPOf (okGlo (v := .ref (G.ca 14)) gc_NoText rfl (fun _ _ => rfl))) okAPNil)))) okANil))))))))
    (okSeq (okIf (okW (okOr (okCmT (ok_ne c.toXJ) (okPOf (okM2 (okM (T := .list) c.toXJ PySem.F.plainAttrs_list PySem.F.slot_list_count PySem.F.type_list_count (ok_count c.toXJ) (okPLoc 1) (okAPCons (okPOf okBl) okAPNil)) (okM (T := .tuple) c.toXJ PySem.F.plainAttrs_tuple PySem.F.slot_tuple_count PySem.F.type_tuple_count (ok_countT c.toXJ) (okPLoc 1) (okAPCons (okPOf okBl) okAPNil)))) (okPOf okInt)) (okOr (okNot (okTru c.K (okPOf (okB (ok_isX rfl hX (List.mem_singleton.mpr rfl) hx) n_isinstance (by decide +kernel) (okAPCons (okPLoc 0) (okAPCons (okPOf (okTy n_ValueError (by decide +kernel))) okAPNil)))))) (okOr1 (okTru c.K (okPOf (okB (ok_isX rfl hX (List.mem_singleton.mpr rfl) hx) n_isinstance (by decide +kernel) (okAPCons (okPLoc 0) (okAPCons (okPOf (okTup (okACons (okUse (okGlo (v := .ref (G.ca 32)) gc_HereError rfl (fun _ _ => rfl))) (okACons (okUse (okTy n_LookupError (by decide +kernel))) okANil)))) okAPNil))))))))) (okOne (okRet okStr)) okNil)
    (okSeq (okSet c.toXJ 2 okStr)
    (okSeq (okFrz (okSet c.toXJ 2 (okM (T := .str) c.toXJ PySem.F.plainAttrs_str PySem.F.slot_str_split PySem.F.type_str_split ok_split (okPOf (ok2 (ok_add c.K) (okPLoc 2) (okPOf okStr))) (okAPCons (okPOf okStr) okAPNil))))
    (okOne (okRet (okIx (ok_ix c.toXJ) (okPLoc 2) (okPOf (okM2 (okM (T := .list) c.toXJ PySem.F.plainAttrs_list PySem.F.slot_list_index PySem.F.type_list_index (ok_index c.toXJ) (okPLoc 1) (okAPCons (okPOf okBl) okAPNil)) (okM (T := .tuple) c.toXJ PySem.F.plainAttrs_tuple PySem.F.slot_tuple_index PySem.F.type_tuple_index (ok_indexT c.toXJ) (okPLoc 1) (okAPCons (okPOf okBl) okAPNil)))))))))))))))))
theorem oo__law_word {P : Program} {w : World} {G : Ga} {mg : Str → Option Value} {base : Heap} {f : Addr} {fd : FuncData} (F : FunD G.K "_law_word" "_law_word" (defArgs st__law_word) (defBody st__law_word) (defScope st__law_word) [] [] f fd)
    (gc_Crowded : mg "Crowded" = some (.ref (G.ca 13))) (gc_HereError : mg "HereError" = some (.ref (G.ca 32))) (gc_NoBottle : mg "NoBottle" = some (.ref (G.ca 4))) (gc_NoBottles : mg "NoBottles" = some (.ref (G.ca 0))) (gc_NoDeed : mg "NoDeed" = some (.ref (G.ca 15))) (gc_NoHints : mg "NoHints" = some (.ref (G.ca 24))) (gc_NoHold : mg "NoHold" = some (.ref (G.ca 6))) (gc_NoLine : mg "NoLine" = some (.ref (G.ca 26))) (gc_NoList : mg "NoList" = some (.ref (G.ca 22))) (gc_NoLost : mg "NoLost" = some (.ref (G.ca 23))) (gc_NoMaker : mg "NoMaker" = some (.ref (G.ca 1))) (gc_NoMonth : mg "NoMonth" = some (.ref (G.ca 7))) (gc_NoNotes : mg "NoNotes" = some (.ref (G.ca 20))) (gc_NoNumber : mg "NoNumber" = some (.ref (G.ca 27))) (gc_NoOrder : mg "NoOrder" = some (.ref (G.ca 21))) (gc_NoPlace : mg "NoPlace" = some (.ref (G.ca 28))) (gc_NoRate : mg "NoRate" = some (.ref (G.ca 18))) (gc_NoRooms : mg "NoRooms" = some (.ref (G.ca 5))) (gc_NoSet : mg "NoSet" = some (.ref (G.ca 9))) (gc_NoSize : mg "NoSize" = some (.ref (G.ca 3))) (gc_NoSpan : mg "NoSpan" = some (.ref (G.ca 17))) (gc_NoSpans : mg "NoSpans" = some (.ref (G.ca 16))) (gc_NoText : mg "NoText" = some (.ref (G.ca 14))) (gc_NoWay : mg "NoWay" = some (.ref (G.ca 25))) (gc_NoWho : mg "NoWho" = some (.ref (G.ca 8))) (gc_NoWishes : mg "NoWishes" = some (.ref (G.ca 19))) (gc_NoYear : mg "NoYear" = some (.ref (G.ca 2))) (gc_TooMany : mg "TooMany" = some (.ref (G.ca 12))) (hX : XcOk G nX mroT ksT) (n_LookupError : mg "LookupError" = none) (n_ValueError : mg "ValueError" = none) (n_isinstance : mg "isinstance" = none) (hNx : ∀ a c dd, ¬ G.xs a c dd) :
    FnI P w G mg base 1 f fd ["_law_e"] m__law_word :=
  FnI.of F sc__law_word fun cdv A outer s H E c => (okSeq (okFrz (okSet c.toXJ 1 (okLst (okACons (okUse (okB (ok_isE rfl hX hNx) n_isinstance (by decide +kernel) (okAPCons (okPLoc 0) (okAPCons (okPOf (okGlo (v := .ref (G.ca 1)) gc_NoMaker rfl (fun _ _ => rfl))) okAPNil)))) (okACons (okUse (okB (ok_isE rfl hX hNx) n_isinstance (by decide +kernel) (okAPCons (okPLoc 0) (okAPCons (okPOf (okGlo (v := .ref (G.ca 2)) gc_NoYear rfl (fun _ _ => rfl))) okAPNil)))) (okACons (okUse (okB (ok_isE rfl hX hNx) n_isinstance (by decide +kernel) (okAPCons (okPLoc 0) (okAPCons (okPOf (okGlo (v := .ref (G.ca 3)) gc_NoSize rfl (fun _ _ => rfl))) okAPNil)))) (okACons (okUse (okB (ok_isE rfl hX hNx) n_isinstance (by decide +kernel) (okAPCons (okPLoc 0) (okAPCons (okPOf (okGlo (v := .ref (G.ca 4)) gc_NoBottle rfl (fun _ _ => rfl))) okAPNil)))) okANil)))))))
    (okSeq (okFrz (okSet c.toXJ 1 (ok2 (ok_add c.K) (okPLoc 1) (okPOf (okLst (okACons (okUse (okB (ok_isE rfl hX hNx) n_isinstance (by decide +kernel) (okAPCons (okPLoc 0) (okAPCons (okPOf (okGlo (v := .ref (G.ca 0)) gc_NoBottles rfl (fun _ _ => rfl))) okAPNil)))) (okACons (okUse (okB (ok_isE rfl hX hNx) n_isinstance (by decide +kernel) (okAPCons (okPLoc 0) (okAPCons (okPOf (okGlo (v := .ref (G.ca 5)) gc_NoRooms rfl (fun _ _ => rfl))) okAPNil)))) (okACons (okUse (okB (ok_isE rfl hX hNx) n_isinstance (by decide +kernel) (okAPCons (okPLoc 0) (okAPCons (okPOf (okGlo (v := .ref (G.ca 6)) gc_NoHold rfl (fun _ _ => rfl))) okAPNil)))) (okACons (okUse (okB (ok_isE rfl hX hNx) n_isinstance (by decide +kernel) (okAPCons (okPLoc 0) (okAPCons (okPOf (okGlo (v := .ref (G.ca 7)) gc_NoMonth rfl (fun _ _ => rfl))) okAPNil)))) okANil)))))))))
    (okSeq (okFrz (okSet c.toXJ 1 (ok2 (ok_add c.K) (okPLoc 1) (okPOf (okLst (okACons (okUse (okB (ok_isE rfl hX hNx) n_isinstance (by decide +kernel) (okAPCons (okPLoc 0) (okAPCons (okPOf (okGlo (v := .ref (G.ca 8)) gc_NoWho rfl (fun _ _ => rfl))) okAPNil)))) (okACons (okUse (okB (ok_isE rfl hX hNx) n_isinstance (by decide +kernel) (okAPCons (okPLoc 0) (okAPCons (okPOf (okGlo (v := .ref (G.ca 9)) gc_NoSet rfl (fun _ _ => rfl))) okAPNil)))) (okACons (okUse (okB (ok_isE rfl hX hNx) n_isinstance (by decide +kernel) (okAPCons (okPLoc 0) (okAPCons (okPOf (okGlo (v := .ref (G.ca 15)) gc_NoDeed rfl (fun _ _ => rfl))) okAPNil)))) (okACons (okUse (okB (ok_isE rfl hX hNx) n_isinstance (by decide +kernel) (okAPCons (okPLoc 0) (okAPCons (okPOf (okGlo (v := .ref (G.ca 16)) gc_NoSpans rfl (fun _ _ => rfl))) okAPNil)))) okANil)))))))))
    (okSeq (okFrz (okSet c.toXJ 1 (ok2 (ok_add c.K) (okPLoc 1) (okPOf (okLst (okACons (okUse (okB (ok_isE rfl hX hNx) n_isinstance (by decide +kernel) (okAPCons (okPLoc 0) (okAPCons (okPOf (okGlo (v := .ref (G.ca 17)) gc_NoSpan rfl (fun _ _ => rfl))) okAPNil)))) (okACons (okUse (okB (ok_isE rfl hX hNx) n_isinstance (by decide +kernel) (okAPCons (okPLoc 0) (okAPCons (okPOf (okGlo (v := .ref (G.ca 18)) gc_NoRate rfl (fun _ _ => rfl))) okAPNil)))) (okACons (okUse (okB (ok_isE rfl hX hNx) n_isinstance (by decide +kernel) (okAPCons (okPLoc 0) (okAPCons (okPOf (okGlo (v := .ref (G.ca 19)) gc_NoWishes rfl (fun _ _ => rfl))) okAPNil)))) (okACons (okUse (okB (ok_isE rfl hX hNx) n_isinstance (by decide +kernel) (okAPCons (okPLoc 0) (okAPCons (okPOf (okGlo (v := .ref (G.ca 20)) gc_NoNotes rfl (fun _ _ => rfl))) okAPNil)))) okANil)))))))))
    (okSeq (okFrz (okSet c.toXJ 1 (ok2 (ok_add c.K) (okPLoc 1) (okPOf (okLst (okACons (okUse (okB (ok_isE rfl hX hNx) n_isinstance (by decide +kernel) (okAPCons (okPLoc 0) (okAPCons (okPOf (okGlo (v := .ref (G.ca 21)) gc_NoOrder rfl (fun _ _ => rfl))) okAPNil)))) (okACons (okUse (okB (ok_isE rfl hX hNx) n_isinstance (by decide +kernel) (okAPCons (okPLoc 0) (okAPCons (okPOf (okGlo (v := .ref (G.ca 22)) gc_NoList rfl (fun _ _ => rfl))) okAPNil)))) (okACons (okUse (okB (ok_isE rfl hX hNx) n_isinstance (by decide +kernel) (okAPCons (okPLoc 0) (okAPCons (okPOf (okGlo (v := .ref (G.ca 23)) gc_NoLost rfl (fun _ _ => rfl))) okAPNil)))) (okACons (okUse (okB (ok_isE rfl hX hNx) n_isinstance (by decide +kernel) (okAPCons (okPLoc 0) (okAPCons (okPOf (okGlo (v := .ref (G.ca 24)) gc_NoHints rfl (fun _ _ => rfl))) okAPNil)))) okANil)))))))))
    (okSeq (okFrz (okSet c.toXJ 1 (ok2 (ok_add c.K) (okPLoc 1) (okPOf (okLst (okACons (okUse (okB (ok_isE rfl hX hNx) n_isinstance (by decide +kernel) (okAPCons (okPLoc 0) (okAPCons (okPOf (okGlo (v := .ref (G.ca 25)) gc_NoWay rfl (fun _ _ => rfl))) okAPNil)))) (okACons (okUse (okB (ok_isE rfl hX hNx) n_isinstance (by decide +kernel) (okAPCons (okPLoc 0) (okAPCons (okPOf (okGlo (v := .ref (G.ca 26)) gc_NoLine rfl (fun _ _ => rfl))) okAPNil)))) (okACons (okUse (okB (ok_isE rfl hX hNx) n_isinstance (by decide +kernel) (okAPCons (okPLoc 0) (okAPCons (okPOf (okGlo (v := .ref (G.ca 27)) gc_NoNumber rfl (fun _ _ => rfl))) okAPNil)))) (okACons (okUse (okB (ok_isE rfl hX hNx) n_isinstance (by decide +kernel) (okAPCons (okPLoc 0) (okAPCons (okPOf (okGlo (v := .ref (G.ca 28)) gc_NoPlace rfl (fun _ _ => rfl))) okAPNil)))) okANil)))))))))
    (okSeq (okFrz (okSet c.toXJ 1 (ok2 (ok_add c.K) (okPLoc 1) (okPOf (okLst (okACons (okUse (okB (ok_isE rfl hX hNx) n_isinstance (by decide +kernel) (okAPCons (okPLoc 0) (okAPCons (okPOf (okGlo (v := .ref (G.ca 12)) gc_TooMany rfl (fun _ _ => rfl))) okAPNil)))) (okACons (okUse (okB (ok_isE rfl hX hNx) n_isinstance (by decide +kernel) (okAPCons (okPLoc 0) (okAPCons (okPOf (okGlo (v := .ref (G.ca 13)) gc_Crowded rfl (fun _ _ => rfl))) okAPNil)))) (okACons (okUse (okB (ok_isE rfl hX hNx) n_isinstance (by decide +kernel) (okAPCons (okPLoc 0) (okAPCons (okPOf (okGlo (v := .ref (G.ca 14)) gc_NoText rfl (fun _ _ => rfl))) okAPNil)))) okANil))))))))
    (okSeq (okIf (okW (okOr (okCmT (ok_ne c.toXJ) (okPOf (okM2 (okM (T := .list) c.toXJ PySem.F.plainAttrs_list PySem.F.slot_list_count PySem.F.type_list_count (ok_count c.toXJ) (okPLoc 1) (okAPCons (okPOf okBl) okAPNil)) (okM (T := .tuple) c.toXJ PySem.F.plainAttrs_tuple PySem.F.slot_tuple_count PySem.F.type_tuple_count (ok_countT c.toXJ) (okPLoc 1) (okAPCons (okPOf okBl) okAPNil)))) (okPOf okInt)) (okOr (okNot (okTru c.K (okPOf (okB (ok_isE rfl hX hNx) n_isinstance (by decide +kernel) (okAPCons (okPLoc 0) (okAPCons (okPOf (okTy n_ValueError (by decide +kernel))) okAPNil)))))) (okOr1 (okTru c.K (okPOf (okB (ok_isE rfl hX hNx) n_isinstance (by decide +kernel) (okAPCons (okPLoc 0) (okAPCons (okPOf (okTup (okACons (okUse (okGlo (v := .ref (G.ca 32)) gc_HereError rfl (fun _ _ => rfl))) (okACons (okUse (okTy n_LookupError (by decide +kernel))) okANil)))) okAPNil))))))))) (okOne (okRet okStr)) okNil)
    (okSeq (okSet c.toXJ 2 okStr)
    (okSeq (okFrz (okSet c.toXJ 2 (okM (T := .str) c.toXJ PySem.F.plainAttrs_str PySem.F.slot_str_split PySem.F.type_str_split ok_split (okPOf (ok2 (ok_add c.K) (okPLoc 2) (okPOf okStr))) (okAPCons (okPOf okStr) okAPNil))))
    (okOne (okRet (okIx (ok_ix c.toXJ) (okPLoc 2) (okPOf (okM2 (okM (T := .list) c.toXJ PySem.F.plainAttrs_list PySem.F.slot_list_index PySem.F.type_list_index (ok_index c.toXJ) (okPLoc 1) (okAPCons (okPOf okBl) okAPNil)) (okM (T := .tuple) c.toXJ PySem.F.plainAttrs_tuple PySem.F.slot_tuple_index PySem.F.type_tuple_index (ok_indexT c.toXJ) (okPLoc 1) (okAPCons (okPOf okBl) okAPNil)))))))))))))))))
/-! ### _law_plain_ones -/
theorem sc__law_plain_ones : FnScope ["_law_some"] [] (defScope st__law_plain_ones) := ⟨rfl, rfl, rfl, by decide +kernel, rfl, by decide +kernel, by decide +kernel⟩
theorem o__law_plain_ones {P : Program} {w : World} {G : Ga} {mg : Str → Option Value} {base : Heap} {f : Addr} {fd : FuncData} (F : FunD G.K "_law_plain_ones" "_law_plain_ones" (defArgs st__law_plain_ones) (defBody st__law_plain_ones) (defScope st__law_plain_ones) [] [] f fd)
    (gc_NoBottle : mg "NoBottle" = some (.ref (G.ca 4))) (gc_NoBottles : mg "NoBottles" = some (.ref (G.ca 0))) (gc_NoDeed : mg "NoDeed" = some (.ref (G.ca 15))) (gc_NoHints : mg "NoHints" = some (.ref (G.ca 24))) (gc_NoHold : mg "NoHold" = some (.ref (G.ca 6))) (gc_NoLine : mg "NoLine" = some (.ref (G.ca 26))) (gc_NoList : mg "NoList" = some (.ref (G.ca 22))) (gc_NoLost : mg "NoLost" = some (.ref (G.ca 23))) (gc_NoMaker : mg "NoMaker" = some (.ref (G.ca 1))) (gc_NoMonth : mg "NoMonth" = some (.ref (G.ca 7))) (gc_NoNotes : mg "NoNotes" = some (.ref (G.ca 20))) (gc_NoNumber : mg "NoNumber" = some (.ref (G.ca 27))) (gc_NoOrder : mg "NoOrder" = some (.ref (G.ca 21))) (gc_NoPlace : mg "NoPlace" = some (.ref (G.ca 28))) (gc_NoRate : mg "NoRate" = some (.ref (G.ca 18))) (gc_NoRooms : mg "NoRooms" = some (.ref (G.ca 5))) (gc_NoSet : mg "NoSet" = some (.ref (G.ca 9))) (gc_NoSize : mg "NoSize" = some (.ref (G.ca 3))) (gc_NoSpan : mg "NoSpan" = some (.ref (G.ca 17))) (gc_NoSpans : mg "NoSpans" = some (.ref (G.ca 16))) (gc_NoWay : mg "NoWay" = some (.ref (G.ca 25))) (gc_NoWho : mg "NoWho" = some (.ref (G.ca 8))) (gc_NoWishes : mg "NoWishes" = some (.ref (G.ca 19))) (gc_NoYear : mg "NoYear" = some (.ref (G.ca 2))) (er_NoBottle : ExcR G.K (G.ca 4)) (er_NoBottles : ExcR G.K (G.ca 0)) (er_NoDeed : ExcR G.K (G.ca 15)) (er_NoHints : ExcR G.K (G.ca 24)) (er_NoHold : ExcR G.K (G.ca 6)) (er_NoLine : ExcR G.K (G.ca 26)) (er_NoList : ExcR G.K (G.ca 22)) (er_NoLost : ExcR G.K (G.ca 23)) (er_NoMaker : ExcR G.K (G.ca 1)) (er_NoMonth : ExcR G.K (G.ca 7)) (er_NoNotes : ExcR G.K (G.ca 20)) (er_NoNumber : ExcR G.K (G.ca 27)) (er_NoOrder : ExcR G.K (G.ca 21)) (er_NoPlace : ExcR G.K (G.ca 28)) (er_NoRate : ExcR G.K (G.ca 18)) (er_NoRooms : ExcR G.K (G.ca 5)) (er_NoSet : ExcR G.K (G.ca 9)) (er_NoSize : ExcR G.K (G.ca 3)) (er_NoSpan : ExcR G.K (G.ca 17)) (er_NoSpans : ExcR G.K (G.ca 16)) (er_NoWay : ExcR G.K (G.ca 25)) (er_NoWho : ExcR G.K (G.ca 8)) (er_NoWishes : ExcR G.K (G.ca 19)) (er_NoYear : ExcR G.K (G.ca 2)) :
    FnI P w G mg base 1 f fd [] m__law_plain_ones :=
  FnI.of F sc__law_plain_ones fun cdv A outer s H E c => (okSeq (okFrz (okSet c.toXJ 0 (okLst (okACons (okUse (okNewE0 c 1 er_NoMaker gc_NoMaker)) (okACons (okUse (okNewE0 c 2 er_NoYear gc_NoYear)) (okACons (okUse (okNewE0 c 3 er_NoSize gc_NoSize)) (okACons (okUse (okNewE0 c 4 er_NoBottle gc_NoBottle)) (okACons (okUse (okNewE0 c 0 er_NoBottles gc_NoBottles)) (okACons (okUse (okNewE0 c 5 er_NoRooms gc_NoRooms)) (okACons (okUse (okNewE0 c 6 er_NoHold gc_NoHold)) (okACons (okUse (okNewE0 c 7 er_NoMonth gc_NoMonth)) (okACons (okUse (okNewE0 c 8 er_NoWho gc_NoWho)) (okACons (okUse (okNewE0 c 9 er_NoSet gc_NoSet)) okANil)))))))))))))
    (okSeq (okFrz (okSet c.toXJ 0 (ok2 (ok_add c.K) (okPLoc 0) (okPOf (okLst (okACons (okUse (okNewE0 c 15 er_NoDeed gc_NoDeed)) (okACons (okUse (okNewE0 c 16 er_NoSpans gc_NoSpans)) (okACons (okUse (okNewE0 c 17 er_NoSpan gc_NoSpan)) (okACons (okUse (okNewE0 c 18 er_NoRate gc_NoRate)) (okACons (okUse (okNewE0 c 19 er_NoWishes gc_NoWishes)) (okACons (okUse (okNewE0 c 20 er_NoNotes gc_NoNotes)) (okACons (okUse (okNewE0 c 21 er_NoOrder gc_NoOrder)) (okACons (okUse (okNewE0 c 22 er_NoList gc_NoList)) (okACons (okUse (okNewE0 c 23 er_NoLost gc_NoLost)) okANil))))))))))))))
    (okOne (okRet (ok2 (ok_add c.K) (okPLoc 0) (okPOf (okLst (okACons (okUse (okNewE0 c 24 er_NoHints gc_NoHints)) (okACons (okUse (okNewE0 c 25 er_NoWay gc_NoWay)) (okACons (okUse (okNewE0 c 26 er_NoLine gc_NoLine)) (okACons (okUse (okNewE0 c 27 er_NoNumber gc_NoNumber)) (okACons (okUse (okNewE0 c 28 er_NoPlace gc_NoPlace)) okANil))))))))))))
/-! ### _law_here_word -/
theorem sc__law_here_word : FnScope ["_law_e", "_law_some"] ["_law_e"] (defScope st__law_here_word) := ⟨rfl, rfl, rfl, by decide +kernel, rfl, by decide +kernel, by decide +kernel⟩
theorem o__law_here_word {P : Program} {w : World} {G : Ga} {mg : Str → Option Value} {base : Heap} {f : Addr} {fd : FuncData} (F : FunD G.K "_law_here_word" "_law_here_word" (defArgs st__law_here_word) (defBody st__law_here_word) (defScope st__law_here_word) [] [] f fd)
    (gc_CellarError : mg "CellarError" = some (.ref (G.ca 31))) (gc_Full : mg "Full" = some (.ref (G.ca 10))) (gc_Gone : mg "Gone" = some (.ref (G.ca 11))) (gc_HereError : mg "HereError" = some (.ref (G.ca 32))) (gc_Kept : mg "Kept" = some (.ref (G.ca 29))) (hX : XcOk G nX mroT ksT) (hNx : ∀ a c dd, ¬ G.xs a c dd) (n_LookupError : mg "LookupError" = none) (n_ValueError : mg "ValueError" = none) (n_isinstance : mg "isinstance" = none) :
    FnI P w G mg base 1 f fd ["_law_e"] m__law_here_word :=
  FnI.of F sc__law_here_word fun cdv A outer s H E c => (okSeq (okFrz (okSet c.toXJ 1 (okLst (okACons (okUse (okB (ok_isE rfl hX hNx) n_isinstance (by decide +kernel) (okAPCons (okPLoc 0) (okAPCons (okPOf (okGlo (v := .ref (G.ca 10)) gc_Full rfl (fun _ _ => rfl))) okAPNil)))) (okACons (okUse (okB (ok_isE rfl hX hNx) n_isinstance (by decide +kernel) (okAPCons (okPLoc 0) (okAPCons (okPOf (okGlo (v := .ref (G.ca 11)) gc_Gone rfl (fun _ _ => rfl))) okAPNil)))) (okACons (okUse (okB (ok_isE rfl hX hNx) n_isinstance (by decide +kernel) (okAPCons (okPLoc 0) (okAPCons (okPOf (okGlo (v := .ref (G.ca 29)) gc_Kept rfl (fun _ _ => rfl))) okAPNil)))) (okACons (okUse (okB (ok_isE rfl hX hNx) n_isinstance (by decide +kernel) (okAPCons (okPLoc 0) (okAPCons (okPOf (okGlo (v := .ref (G.ca 31)) gc_CellarError rfl (fun _ _ => rfl))) okAPNil)))) okANil)))))))
    (okSeq (okIf (okW (okOr (okCmT (ok_ne c.toXJ) (okPOf (okM2 (okM (T := .list) c.toXJ PySem.F.plainAttrs_list PySem.F.slot_list_count PySem.F.type_list_count (ok_count c.toXJ) (okPLoc 1) (okAPCons (okPOf okBl) okAPNil)) (okM (T := .tuple) c.toXJ PySem.F.plainAttrs_tuple PySem.F.slot_tuple_count PySem.F.type_tuple_count (ok_countT c.toXJ) (okPLoc 1) (okAPCons (okPOf okBl) okAPNil)))) (okPOf okInt)) (okOr (okNot (okTru c.K (okPOf (okB (ok_isE rfl hX hNx) n_isinstance (by decide +kernel) (okAPCons (okPLoc 0) (okAPCons (okPOf (okGlo (v := .ref (G.ca 32)) gc_HereError rfl (fun _ _ => rfl))) okAPNil)))))) (okOr1 (okNot (okTru c.K (okPOf (okB (ok_isE rfl hX hNx) n_isinstance (by decide +kernel) (okAPCons (okPLoc 0) (okAPCons (okPOf (okTy n_LookupError (by decide +kernel))) okAPNil)))))))))) (okOne (okRet okStr)) okNil)
    (okOne (okRet (okIte (okTru c.K (okPOf (okB (ok_isE rfl hX hNx) n_isinstance (by decide +kernel) (okAPCons (okPLoc 0) (okAPCons (okPOf (okTy n_ValueError (by decide +kernel))) okAPNil))))) okStr (okIx (ok_ix c.toXJ) (okPOf (okLst (okACons (okUse okStr) (okACons (okUse okStr) (okACons (okUse okStr) (okACons (okUse okStr) okANil)))))) (okPOf (okM2 (okM (T := .list) c.toXJ PySem.F.plainAttrs_list PySem.F.slot_list_index PySem.F.type_list_index (ok_index c.toXJ) (okPLoc 1) (okAPCons (okPOf okBl) okAPNil)) (okM (T := .tuple) c.toXJ PySem.F.plainAttrs_tuple PySem.F.slot_tuple_index PySem.F.type_tuple_index (ok_indexT c.toXJ) (okPLoc 1) (okAPCons (okPOf okBl) okAPNil))))))))))
/-! ### _law_here_right -/
theorem sc__law_here_right : FnScope ["_law_one", "_law_two", "_law_three", "_law_drunk", "_law_broken", "_law_mates", "_law_rows", "_law_e", "_law_told"] ["_law_one", "_law_two", "_law_three"] (defScope st__law_here_right) := ⟨rfl, rfl, rfl, by decide +kernel, rfl, by decide +kernel, by decide +kernel⟩
theorem o__law_here_right {P : Program} {w : World} {G : Ga} {mg : Str → Option Value} {base : Heap} {f : Addr} {fd : FuncData} (F : FunD G.K "_law_here_right" "_law_here_right" (defArgs st__law_here_right) (defBody st__law_here_right) (defScope st__law_here_right) [] [] f fd)
    {f__law_here_word : Addr} {d__law_here_word : FuncData} (k__law_here_word : Kn P w G mg base 2 "_law_here_word" ["_law_e"] m__law_here_word f__law_here_word d__law_here_word) {d_Full___init__ : FuncData} {d_Gone___init__ : FuncData} {d_Kept___init__ : FuncData} (w_Full___init___1_shelf_room : KwI G d_Full___init__ ["self", "room", "shelf"] 1 ["shelf", "room"] [.p 0, .k 1, .k 0] []) (b_Full___init___3 : Bd G d_Full___init__ ["self", "room", "shelf"] []) (w_Gone___init___1_fate_number : KwI G d_Gone___init__ ["self", "number", "fate"] 1 ["fate", "number"] [.p 0, .k 1, .k 0] []) (b_Gone___init___3 : Bd G d_Gone___init__ ["self", "number", "fate"] []) (w_Kept___init___1_number_others : KwI G d_Kept___init__ ["self", "number", "others"] 1 ["number", "others"] [.p 0, .k 0, .k 1] []) (w_Kept___init___2_others : KwI G d_Kept___init__ ["self", "number", "others"] 2 ["others"] [.p 0, .p 1, .k 0] []) (b__law_here_word_1 : Bd G d__law_here_word ["_law_e"] []) (xf_fate : XfOk G nX 8 "fate") (xf_number : XfOk G nX 7 "number") (xf_others : XfOk G nX 9 "others") (xf_room : XfOk G nX 5 "room") (xf_shelf : XfOk G nX 6 "shelf") {f_Full : Addr} (ke_Full : KnEL P w G mg base 10 "Full" [5, 6] ["self", "room", "shelf"] f_Full d_Full___init__) {f_Gone : Addr} (ke_Gone : KnEL P w G mg base 11 "Gone" [7, 8] ["self", "number", "fate"] f_Gone d_Gone___init__) {f_Kept : Addr} (ke_Kept : KnEL P w G mg base 29 "Kept" [7, 9] ["self", "number", "others"] f_Kept d_Kept___init__) (gc_Full : mg "Full" = some (.ref (G.ca 10))) (gc_Gone : mg "Gone" = some (.ref (G.ca 11))) (gc_Kept : mg "Kept" = some (.ref (G.ca 29))) :
    FnI P w G mg base 3 f fd ["_law_one", "_law_two", "_law_three"] m__law_here_right :=
  FnI.of F sc__law_here_right fun cdv A outer s H E c => (okSeq (by first | exact okPar3 c 3 4 5 (okACons (okUse (okTup (okACons (okUse okStr) (okACons (okUse (ok2 ok_mod (okPLoc 1) (okPOf okInt))) (okACons (okUse okStr) okANil))))) (okACons (okUse (okTup (okACons (okUse okStr) (okACons (okUse (okLoc 2)) okANil)))) (okACons (okUse (okTup (okACons (okUse (ok2 (ok_add c.K) (okPLoc 0) (okPOf okInt))) (okACons (okUse (ok2 (ok_add c.K) (okPOf (ok2 (ok_add c.K) (okPLoc 0) (okPOf okInt))) (okPLoc 2))) okANil)))) okANil))) (lenCons (lenCons (lenCons lenNil))) | exact (okAsg (okTup (okACons (okUse (okTup (okACons (okUse okStr) (okACons (okUse (ok2 ok_mod (okPLoc 1) (okPOf okInt))) (okACons (okUse okStr) okANil))))) (okACons (okUse (okTup (okACons (okUse okStr) (okACons (okUse (okLoc 2)) okANil)))) (okACons (okUse (okTup (okACons (okUse (ok2 (ok_add c.K) (okPLoc 0) (okPOf okInt))) (okACons (okUse (ok2 (ok_add c.K) (okPOf (ok2 (ok_add c.K) (okPLoc 0) (okPOf okInt))) (okPLoc 2))) okANil)))) okANil)))) (okGTup c (okGCons (okGNm c.toXJ 3) (okGCons (okGNm c.toXJ 4) (okGCons (okGNm c.toXJ 5) okGNil))))))
    (okSeq (okFrz (okSet c.toXJ 6 (okLst (okACons (okUse (okNewE c (.ofL c ke_Full) b_Full___init___3 (okACons (okUse (okLoc 0)) (okACons (okUse (okLoc 1)) okANil)) (lenCons (lenCons lenNil)))) (okACons (okUse (okNewEK0 c (.ofL c ke_Full) w_Full___init___1_shelf_room (okKCons (okUse (okLoc 1)) (okKCons (okUse (okLoc 0)) okKNil)) (lenCons (lenCons lenNil)) (fun ds zs h1 h2 => match ds, zs, h1, h2 with | [], [_, _], _, _ => rfl))) (okACons (okUse (okNewE c (.ofL c ke_Gone) b_Gone___init___3 (okACons (okUse (okLoc 0)) (okACons (okUse (okLoc 3)) okANil)) (lenCons (lenCons lenNil)))) (okACons (okUse (okNewEK0 c (.ofL c ke_Gone) w_Gone___init___1_fate_number (okKCons (okUse (okLoc 4)) (okKCons (okUse (okLoc 0)) okKNil)) (lenCons (lenCons lenNil)) (fun ds zs h1 h2 => match ds, zs, h1, h2 with | [], [_, _], _, _ => rfl))) okANil)))))))
    (okSeq (okFrz (okSet c.toXJ 6 (ok2 (ok_add c.K) (okPLoc 6) (okPOf (okLst (okACons (okUse (okNewEK c (.ofL c ke_Kept) w_Kept___init___2_others (okACons (okUse (okLoc 0)) okANil) (okKCons (okUse (okLoc 5)) okKNil) (lenCons lenNil) (lenCons lenNil) (fun ds zs h1 h2 => match ds, zs, h1, h2 with | [_], [_], _, _ => rfl))) (okACons (okUse (okNewEK0 c (.ofL c ke_Kept) w_Kept___init___1_number_others (okKCons (okUse (okLoc 1)) (okKCons (okUse (okTup okANil)) okKNil)) (lenCons (lenCons lenNil)) (fun ds zs h1 h2 => match ds, zs, h1, h2 with | [], [_, _], _, _ => rfl))) okANil)))))))
    (okSeq (okIf (okCmT (ok_ne c.toXJ) (okPOf (okLcE (own := [("_law_e", 7)]) c (okISeq c.toXJ (okLoc 6)) (⟨rfl, by decide +kernel, by decide +kernel, by decide +kernel, by decide +kernel⟩ : BlkOk ["_law_one", "_law_two", "_law_three", "_law_drunk", "_law_broken", "_law_mates", "_law_rows", "_law_e", "_law_told"] (defScope st__law_here_right) _ _) (fun s2 H2 C2 cl2 fp2 => (okGNm (c.blk s2 H2 _ _ fp2).toXJ 7)) (by decide) (fun s2 H2 C2 cl2 fp2 => okYes) (fun s2 H2 C2 cl2 fp2 => (okUse (okCallB (c.blk s2 H2 _ _ fp2) k__law_here_word b__law_here_word_1 (okACons (okUse (okLoc 7)) okANil) (lenCons lenNil)))))) (okPOf (okLst (okACons (okUse okStr) (okACons (okUse okStr) (okACons (okUse okStr) (okACons (okUse okStr) (okACons (okUse okStr) (okACons (okUse okStr) okANil))))))))) (okOne (okRet okBl)) okNil)
    (okSeq (okFrz (okSet c.toXJ 8 (okLst (okACons (okUse (okTup (okACons (okUse (okXv c.toXJ xf_room (okPOf (okIx (ok_ix c.toXJ) (okPLoc 6) (okPOf okInt))))) (okACons (okUse (okXv c.toXJ xf_shelf (okPOf (okIx (ok_ix c.toXJ) (okPLoc 6) (okPOf okInt))))) okANil)))) (okACons (okUse (okTup (okACons (okUse (okXv c.toXJ xf_room (okPOf (okIx (ok_ix c.toXJ) (okPLoc 6) (okPOf okInt))))) (okACons (okUse (okXv c.toXJ xf_shelf (okPOf (okIx (ok_ix c.toXJ) (okPLoc 6) (okPOf okInt))))) okANil)))) (okACons (okUse (okTup (okACons (okUse (okXv c.toXJ xf_number (okPOf (okIx (ok_ix c.toXJ) (okPLoc 6) (okPOf okInt))))) (okACons (okUse (okXv c.toXJ xf_fate (okPOf (okIx (ok_ix c.toXJ) (okPLoc 6) (okPOf okInt))))) okANil)))) okANil))))))
    (okSeq (okFrz (okSet c.toXJ 8 (ok2 (ok_add c.K) (okPLoc 8) (okPOf (okLst (okACons (okUse (okTup (okACons (okUse (okXv c.toXJ xf_number (okPOf (okIx (ok_ix c.toXJ) (okPLoc 6) (okPOf okInt))))) (okACons (okUse (okXv c.toXJ xf_fate (okPOf (okIx (ok_ix c.toXJ) (okPLoc 6) (okPOf okInt))))) okANil)))) (okACons (okUse (okTup (okACons (okUse (okXv c.toXJ xf_number (okPOf (okIx (ok_ix c.toXJ) (okPLoc 6) (okPOf okInt))))) (okACons (okUse (okXv c.toXJ xf_others (okPOf (okIx (ok_ix c.toXJ) (okPLoc 6) (okPOf okInt))))) okANil)))) (okACons (okUse (okTup (okACons (okUse (okXv c.toXJ xf_number (okPOf (okIx (ok_ix c.toXJ) (okPLoc 6) (okPOf okInt))))) (okACons (okUse (okXv c.toXJ xf_others (okPOf (okIx (ok_ix c.toXJ) (okPLoc 6) (okPOf okInt))))) okANil)))) okANil))))))))
    (okOne (okRet (okCm (ok_eq c.toXJ) (okPLoc 8) (okPOf (okLst (okACons (okUse (okTup (okACons (okUse (okLoc 0)) (okACons (okUse (okLoc 1)) okANil)))) (okACons (okUse (okTup (okACons (okUse (okLoc 0)) (okACons (okUse (okLoc 1)) okANil)))) (okACons (okUse (okTup (okACons (okUse (okLoc 0)) (okACons (okUse (okLoc 3)) okANil)))) (okACons (okUse (okTup (okACons (okUse (okLoc 0)) (okACons (okUse (okLoc 4)) okANil)))) (okACons (okUse (okTup (okACons (okUse (okLoc 0)) (okACons (okUse (okLoc 5)) okANil)))) (okACons (okUse (okTup (okACons (okUse (okLoc 1)) (okACons (okUse (okTup okANil)) okANil)))) okANil)))))))))))))))))
/-! ### _law_fields_right -/
theorem sc__law_fields_right : FnScope ["_law_one", "_law_two", "_law_three", "_law_rows", "_law_e", "_law_texts", "_law_words"] ["_law_one", "_law_two", "_law_three"] (defScope st__law_fields_right) := ⟨rfl, rfl, rfl, by decide +kernel, rfl, by decide +kernel, by decide +kernel⟩
theorem o__law_fields_right {P : Program} {w : World} {G : Ga} {mg : Str → Option Value} {base : Heap} {f : Addr} {fd : FuncData} (F : FunD G.K "_law_fields_right" "_law_fields_right" (defArgs st__law_fields_right) (defBody st__law_fields_right) (defScope st__law_fields_right) [] [] f fd)
    {f__law_word : Addr} {d__law_word : FuncData} (k__law_word : Kn P w G mg base 2 "_law_word" ["_law_e"] m__law_word f__law_word d__law_word) {d_Crowded___init__ : FuncData} {d_NoText___init__ : FuncData} {d_TooMany___init__ : FuncData} (w_Crowded___init___1_many_last_first : KwI G d_Crowded___init__ ["self", "first", "last", "many"] 1 ["many", "last", "first"] [.p 0, .k 2, .k 1, .k 0] []) (b_Crowded___init___4 : Bd G d_Crowded___init__ ["self", "first", "last", "many"] []) (b_NoText___init___1 : Bd G d_NoText___init__ ["self", "line"] [(.int 0)]) (w_NoText___init___1_line : KwI G d_NoText___init__ ["self", "line"] 1 ["line"] [.p 0, .k 0] [(.int 0)]) (b_NoText___init___2 : Bd G d_NoText___init__ ["self", "line"] []) (w_TooMany___init___1_most_many : KwI G d_TooMany___init__ ["self", "many", "most"] 1 ["most", "many"] [.p 0, .k 1, .k 0] []) (b_TooMany___init___3 : Bd G d_TooMany___init__ ["self", "many", "most"] []) (b__law_word_1 : Bd G d__law_word ["_law_e"] []) (xf_first : XfOk G nX 2 "first") (xf_last : XfOk G nX 3 "last") (xf_line : XfOk G nX 4 "line") (xf_many : XfOk G nX 0 "many") (xf_most : XfOk G nX 1 "most") {f_Crowded : Addr} (ke_Crowded : KnE P w G mg base 13 "Crowded" [2, 3, 0] ["self", "first", "last", "many"] f_Crowded d_Crowded___init__) {f_NoText : Addr} (ke_NoText : KnE P w G mg base 14 "NoText" [4] ["self", "line"] f_NoText d_NoText___init__) {f_TooMany : Addr} (ke_TooMany : KnE P w G mg base 12 "TooMany" [0, 1] ["self", "many", "most"] f_TooMany d_TooMany___init__) (gc_Crowded : mg "Crowded" = some (.ref (G.ca 13))) (gc_NoText : mg "NoText" = some (.ref (G.ca 14))) (gc_TooMany : mg "TooMany" = some (.ref (G.ca 12))) :
    FnI P w G mg base 3 f fd ["_law_one", "_law_two", "_law_three"] m__law_fields_right :=
  FnI.of F sc__law_fields_right fun cdv A outer s H E c => (okSeq (okSet c.toXJ 3 (okLst (okACons (okUse (okNewE c (.ofE c ke_TooMany) b_TooMany___init___3 (okACons (okUse (okLoc 0)) (okACons (okUse (okLoc 1)) okANil)) (lenCons (lenCons lenNil)))) (okACons (okUse (okNewEK0 c (.ofE c ke_TooMany) w_TooMany___init___1_most_many (okKCons (okUse (okLoc 0)) (okKCons (okUse (okLoc 1)) okKNil)) (lenCons (lenCons lenNil)) (fun ds zs h1 h2 => match ds, zs, h1, h2 with | [], [_, _], _, _ => rfl))) (okACons (okUse (okNewE c (.ofE c ke_Crowded) b_Crowded___init___4 (okACons (okUse (okLoc 0)) (okACons (okUse (okLoc 1)) (okACons (okUse (okLoc 2)) okANil))) (lenCons (lenCons (lenCons lenNil))))) okANil)))))
    (okSeq (okExp (okMut (T := .list) c.toXJ PySem.F.plainAttrs_list PySem.F.slot_list_append PySem.F.type_list_append ok_append (okPLoc 3) (okACons (okUse (okNewEK0 c (.ofE c ke_Crowded) w_Crowded___init___1_many_last_first (okKCons (okUse (okLoc 0)) (okKCons (okUse (okLoc 1)) (okKCons (okUse okInt) okKNil))) (lenCons (lenCons (lenCons lenNil))) (fun ds zs h1 h2 => match ds, zs, h1, h2 with | [], [_, _, _], _, _ => rfl))) okANil)))
    (okSeq (okIf (okCmT (ok_ne c.toXJ) (okPOf (okLcE (own := [("_law_e", 4)]) c (okISeq c.toXJ (okCut c.toXJ (okPLoc 3) okNoPart (okPart (okPOf okInt)))) (⟨rfl, by decide +kernel, by decide +kernel, by decide +kernel, by decide +kernel⟩ : BlkOk ["_law_one", "_law_two", "_law_three", "_law_rows", "_law_e", "_law_texts", "_law_words"] (defScope st__law_fields_right) _ _) (fun s2 H2 C2 cl2 fp2 => (okGNm (c.blk s2 H2 _ _ fp2).toXJ 4)) (by decide) (fun s2 H2 C2 cl2 fp2 => okYes) (fun s2 H2 C2 cl2 fp2 => (okUse (okTup (okACons (okUse (okXv (c.blk s2 H2 _ _ fp2).toXJ xf_many (okPLoc 4))) (okACons (okUse (okXv (c.blk s2 H2 _ _ fp2).toXJ xf_most (okPLoc 4))) okANil))))))) (okPOf (okLst (okACons (okUse (okTup (okACons (okUse (okLoc 0)) (okACons (okUse (okLoc 1)) okANil)))) (okACons (okUse (okTup (okACons (okUse (okLoc 1)) (okACons (okUse (okLoc 0)) okANil)))) okANil))))) (okOne (okRet okBl)) okNil)
    (okSeq (okIf (okCmT (ok_ne c.toXJ) (okPOf (okLcE (own := [("_law_e", 4)]) c (okISeq c.toXJ (okCut c.toXJ (okPLoc 3) (okPart (okPOf okInt)) okNoPart)) (⟨rfl, by decide +kernel, by decide +kernel, by decide +kernel, by decide +kernel⟩ : BlkOk ["_law_one", "_law_two", "_law_three", "_law_rows", "_law_e", "_law_texts", "_law_words"] (defScope st__law_fields_right) _ _) (fun s2 H2 C2 cl2 fp2 => (okGNm (c.blk s2 H2 _ _ fp2).toXJ 4)) (by decide) (fun s2 H2 C2 cl2 fp2 => okYes) (fun s2 H2 C2 cl2 fp2 => (okUse (okTup (okACons (okUse (okXv (c.blk s2 H2 _ _ fp2).toXJ xf_first (okPLoc 4))) (okACons (okUse (okXv (c.blk s2 H2 _ _ fp2).toXJ xf_last (okPLoc 4))) (okACons (okUse (okXv (c.blk s2 H2 _ _ fp2).toXJ xf_many (okPLoc 4))) okANil)))))))) (okPOf (okLst (okACons (okUse (okTup (okACons (okUse (okLoc 0)) (okACons (okUse (okLoc 1)) (okACons (okUse (okLoc 2)) okANil))))) (okACons (okUse (okTup (okACons (okUse okInt) (okACons (okUse (okLoc 1)) (okACons (okUse (okLoc 0)) okANil))))) okANil))))) (okOne (okRet okBl)) okNil)
    (okSeq (okFrz (okSet c.toXJ 5 (okLst (okACons (okUse (okNewE1 c (.ofE c ke_NoText) b_NoText___init___1)) (okACons (okUse (okNewE c (.ofE c ke_NoText) b_NoText___init___2 (okACons (okUse (okLoc 0)) okANil) (lenCons lenNil))) (okACons (okUse (okNewEK0 c (.ofE c ke_NoText) w_NoText___init___1_line (okKCons (okUse (okLoc 1)) okKNil) (lenCons lenNil) (fun ds zs h1 h2 => match ds, zs, h1, h2 with | [], [_], _, _ => rfl))) okANil))))))
    (okSeq (okFrz (okLcSet (i := 6) (own := [("_law_e", 4)]) c (okISeq c.toXJ (ok2 (ok_add c.K) (okPLoc 3) (okPLoc 5))) (⟨rfl, by decide +kernel, by decide +kernel, by decide +kernel, by decide +kernel⟩ : BlkOk ["_law_one", "_law_two", "_law_three", "_law_rows", "_law_e", "_law_texts", "_law_words"] (defScope st__law_fields_right) _ _) (fun s2 H2 C2 cl2 fp2 => (okGNm (c.blk s2 H2 _ _ fp2).toXJ 4)) (by decide) (fun s2 H2 C2 cl2 fp2 => okYes) (fun s2 H2 C2 cl2 fp2 => (okUse (okCallB (c.blk s2 H2 _ _ fp2) k__law_word b__law_word_1 (okACons (okUse (okLoc 4)) okANil) (lenCons lenNil))))))
    (okOne (okRet (okAndV (okCm (ok_eq c.toXJ) (okPOf (okLcE (own := [("_law_e", 4)]) c (okISeq c.toXJ (okLoc 5)) (⟨rfl, by decide +kernel, by decide +kernel, by decide +kernel, by decide +kernel⟩ : BlkOk ["_law_one", "_law_two", "_law_three", "_law_rows", "_law_e", "_law_texts", "_law_words"] (defScope st__law_fields_right) _ _) (fun s2 H2 C2 cl2 fp2 => (okGNm (c.blk s2 H2 _ _ fp2).toXJ 4)) (by decide) (fun s2 H2 C2 cl2 fp2 => okYes) (fun s2 H2 C2 cl2 fp2 => (okUse (okXv (c.blk s2 H2 _ _ fp2).toXJ xf_line (okPLoc 4)))))) (okPOf (okLst (okACons (okUse okInt) (okACons (okUse (okLoc 0)) (okACons (okUse (okLoc 1)) okANil)))))) (okOneV (okCm (ok_eq c.toXJ) (okPLoc 6) (okPOf (ok2 (ok_add c.K) (okPOf (ok2 (ok_add c.K) (okPOf (ok2 (ok_mulS c.K) (okPOf (okLst (okACons (okUse okStr) okANil))) (okPOf okInt))) (okPOf (ok2 (ok_mulS c.K) (okPOf (okLst (okACons (okUse okStr) okANil))) (okPOf okInt))))) (okPOf (ok2 (ok_mulS c.K) (okPOf (okLst (okACons (okUse okStr) okANil))) (okPOf okInt))))))))))))))))
/-! ### _law_raised -/
theorem sc__law_raised : FnScope ["_law_thing", "_law_e"] ["_law_thing"] (defScope st__law_raised) := ⟨rfl, rfl, rfl, by decide +kernel, rfl, by decide +kernel, by decide +kernel⟩
theorem o__law_raised {P : Program} {w : World} {G : Ga} {mg : Str → Option Value} {base : Heap} {f : Addr} {fd : FuncData} (F : FunD G.K "_law_raised" "_law_raised" (defArgs st__law_raised) (defBody st__law_raised) (defScope st__law_raised) [] [] f fd)
    {f_by_age : Addr} {d_by_age : FuncData} (k_by_age : Kn P w G mg base 4 "by_age" ["bottles"] m_by_age f_by_age d_by_age) {f__law_word : Addr} {d__law_word : FuncData} (kx__law_word : KnX P w G mg base 4 "_law_word" "_law_e" nX (hotOf m__law_word) f__law_word d__law_word) (b_by_age_1 : Bd G d_by_age ["bottles"] []) (gc_CellarError : mg "CellarError" = some (.ref (G.ca 31))) (gc_HereError : mg "HereError" = some (.ref (G.ca 32))) (hsub_CellarError : SubOk G nX (G.ca 31) sub_CellarError) (hsub_HereError : SubOk G nX (G.ca 32) sub_HereError) :
    FnI P w G mg base 5 f fd ["_law_thing"] m__law_raised :=
  FnI.of F sc__law_raised fun cdv A outer s H E c => (okSeq (okTryG c (.plain (.one gc_HereError hsub_HereError) (fun aS oS dS pnS xS hxS hnS cS => (okOne (okRet okStr))) (.named (i := 1) (.one gc_CellarError hsub_CellarError) (fun aS oS dS pnS xS hxS hnS cS => (okOne (okRet (okHotX c kx__law_word hxS (hlt := hnS))))) .nil)) (fun pns xe W2 c2 => (okOne (okExp (okCallB c2 k_by_age b_by_age_1 (okACons (okUse (okLoc 0)) okANil) (lenCons lenNil))))))
    (okOne (okRet okStr)))
/-! ### law -/
theorem sc_law : FnScope ["_law_script", "_law_words", "_law_k", "_law_pot_here", "_law_one", "_law_two", "_law_three", "_law_some", "_law_e"] ["_law_script"] (defScope st_law) := ⟨rfl, rfl, rfl, by decide +kernel, rfl, by decide +kernel, by decide +kernel⟩
theorem o_law {P : Program} {w : World} {G : Ga} {mg : Str → Option Value} {base : Heap} {f : Addr} {fd : FuncData} (F : FunD G.K "law" "law" (defArgs st_law) (defBody st_law) (defScope st_law) [] [] f fd)
    {f__law_pot : Addr} {d__law_pot : FuncData} (k__law_pot : Kn P w G mg base 5 "_law_pot" ["_law_cell"] m__law_pot f__law_pot d__law_pot) {f__law_cell_at : Addr} {d__law_cell_at : FuncData} (k__law_cell_at : Kn P w G mg base 5 "_law_cell_at" ["_law_script", "_law_k"] m__law_cell_at f__law_cell_at d__law_cell_at) {f__law_take : Addr} {d__law_take : FuncData} (k__law_take : Kn P w G mg base 5 "_law_take" ["_law_pot_here", "_law_far"] m__law_take f__law_take d__law_take) {f__law_plain_ones : Addr} {d__law_plain_ones : FuncData} (k__law_plain_ones : Kn P w G mg base 5 "_law_plain_ones" [] m__law_plain_ones f__law_plain_ones d__law_plain_ones) {f__law_word : Addr} {d__law_word : FuncData} (k__law_word : Kn P w G mg base 5 "_law_word" ["_law_e"] m__law_word f__law_word d__law_word) {f__law_here_right : Addr} {d__law_here_right : FuncData} (k__law_here_right : Kn P w G mg base 5 "_law_here_right" ["_law_one", "_law_two", "_law_three"] m__law_here_right f__law_here_right d__law_here_right) {f__law_fields_right : Addr} {d__law_fields_right : FuncData} (k__law_fields_right : Kn P w G mg base 5 "_law_fields_right" ["_law_one", "_law_two", "_law_three"] m__law_fields_right f__law_fields_right d__law_fields_right) {f__law_raised : Addr} {d__law_raised : FuncData} (k__law_raised : Kn P w G mg base 5 "_law_raised" ["_law_thing"] m__law_raised f__law_raised d__law_raised) (b__law_cell_at_2 : Bd G d__law_cell_at ["_law_script", "_law_k"] []) (b__law_fields_right_3 : Bd G d__law_fields_right ["_law_one", "_law_two", "_law_three"] []) (b__law_here_right_3 : Bd G d__law_here_right ["_law_one", "_law_two", "_law_three"] []) (b__law_plain_ones_0 : Bd G d__law_plain_ones [] []) (b__law_pot_1 : Bd G d__law_pot ["_law_cell"] []) (b__law_raised_1 : Bd G d__law_raised ["_law_thing"] []) (b__law_take_2 : Bd G d__law_take ["_law_pot_here", "_law_far"] []) (b__law_word_1 : Bd G d__law_word ["_law_e"] []) (gc_CellarError : mg "CellarError" = some (.ref (G.ca 31))) (hX : XcOk G nX mroT ksT) (hNx : ∀ a c dd, ¬ G.xs a c dd) (n_LookupError : mg "LookupError" = none) (n_isinstance : mg "isinstance" = none) (n_len : mg "len" = none) (n_max : mg "max" = none) (n_min : mg "min" = none) (n_range : mg "range" = none) :
    FnI P w G mg base 6 f fd ["_law_script"] m_law :=
  FnI.of F sc_law fun cdv A outer s H E c => (okSeq (okSet c.toXJ 1 okStr)
    (okSeq (okFrz (okSet c.toXJ 1 (okM (T := .str) c.toXJ PySem.F.plainAttrs_str PySem.F.slot_str_split PySem.F.type_str_split ok_split (okPOf (ok2 (ok_add c.K) (okPLoc 1) (okPOf okStr))) (okAPCons (okPOf okStr) okAPNil))))
    (okSeq (okFor c (okIR1 n_range (okAPCons (okPOf (okB (ok_max c) n_max (by decide +kernel) (okAPCons (okPOf okInt) (okAPCons (okPOf (okB (ok_minD c) n_min (by decide +kernel) (okAPCons (okPOf (okB (ok_len c.toXJ) n_len (by decide +kernel) (okAPCons (okPLoc 0) okAPNil))) (okAPCons (okPOf okInt) okAPNil)))) okAPNil)))) okAPNil)) (okGNm c.toXJ 2) (okSeq (okFrz (okSet c.toXJ 3 (okShare (okCallB c k__law_pot b__law_pot_1 (okACons (okUse (okCallB c k__law_cell_at b__law_cell_at_2 (okACons (okUse (okLoc 0)) (okACons (okUse (okLoc 2)) okANil)) (lenCons (lenCons lenNil)))) okANil) (lenCons lenNil)))))
    (okSeq (by first | exact okPar3 c 4 5 6 (okACons (okUse (okCallB c k__law_take b__law_take_2 (okACons (okUse (okLoc 3)) (okACons (okUse okInt) okANil)) (lenCons (lenCons lenNil)))) (okACons (okUse (okCallB c k__law_take b__law_take_2 (okACons (okUse (okLoc 3)) (okACons (okUse (ok2 ok_pow (okPOf okInt) (okPOf okInt))) okANil)) (lenCons (lenCons lenNil)))) (okACons (okUse (okCallB c k__law_take b__law_take_2 (okACons (okUse (okLoc 3)) (okACons (okUse okInt) okANil)) (lenCons (lenCons lenNil)))) okANil))) (lenCons (lenCons (lenCons lenNil))) | exact (okAsg (okTup (okACons (okUse (okCallB c k__law_take b__law_take_2 (okACons (okUse (okLoc 3)) (okACons (okUse okInt) okANil)) (lenCons (lenCons lenNil)))) (okACons (okUse (okCallB c k__law_take b__law_take_2 (okACons (okUse (okLoc 3)) (okACons (okUse (ok2 ok_pow (okPOf okInt) (okPOf okInt))) okANil)) (lenCons (lenCons lenNil)))) (okACons (okUse (okCallB c k__law_take b__law_take_2 (okACons (okUse (okLoc 3)) (okACons (okUse okInt) okANil)) (lenCons (lenCons lenNil)))) okANil)))) (okGTup c (okGCons (okGNm c.toXJ 4) (okGCons (okGNm c.toXJ 5) (okGCons (okGNm c.toXJ 6) okGNil))))))
    (okSeq (okFrz (okSet c.toXJ 7 (okCallB0 c k__law_plain_ones b__law_plain_ones_0)))
    (okSeq (okIf (okW (okOr (okCmT (ok_ne c.toXJ) (okPOf (okLcE (own := [("_law_e", 8)]) c (okISeq c.toXJ (okLoc 7)) (⟨rfl, by decide +kernel, by decide +kernel, by decide +kernel, by decide +kernel⟩ : BlkOk ["_law_script", "_law_words", "_law_k", "_law_pot_here", "_law_one", "_law_two", "_law_three", "_law_some", "_law_e"] (defScope st_law) _ _) (fun s2 H2 C2 cl2 fp2 => (okGNm (c.blk s2 H2 _ _ fp2).toXJ 8)) (by decide) (fun s2 H2 C2 cl2 fp2 => okYes) (fun s2 H2 C2 cl2 fp2 => (okUse (okCallB (c.blk s2 H2 _ _ fp2) k__law_word b__law_word_1 (okACons (okUse (okLoc 8)) okANil) (lenCons lenNil)))))) (okPLoc 1)) (okOr1 (okNot (okTru c.K (okPOf (okCallB c k__law_here_right b__law_here_right_3 (okACons (okUse (okLoc 4)) (okACons (okUse (okLoc 5)) (okACons (okUse (okLoc 6)) okANil))) (lenCons (lenCons (lenCons lenNil)))))))))) (okOne (okRet okBl)) okNil)
    (okSeq (okIf (okCmT (ok_ne c.toXJ) (okPOf (okLcE (own := [("_law_e", 8)]) c (okISeq c.toXJ (okLoc 7)) (⟨rfl, by decide +kernel, by decide +kernel, by decide +kernel, by decide +kernel⟩ : BlkOk ["_law_script", "_law_words", "_law_k", "_law_pot_here", "_law_one", "_law_two", "_law_three", "_law_some", "_law_e"] (defScope st_law) _ _) (fun s2 H2 C2 cl2 fp2 => (okGNm (c.blk s2 H2 _ _ fp2).toXJ 8)) (by decide) (fun s2 H2 C2 cl2 fp2 => (pts_one (okW (okOr (okTru (c.blk s2 H2 _ _ fp2).K (okPOf (okB (ok_isE rfl hX hNx) n_isinstance (by decide +kernel) (okAPCons (okPLoc 8) (okAPCons (okPOf (okTy n_LookupError (by decide +kernel))) okAPNil))))) (okOr1 (okNot (okTru (c.blk s2 H2 _ _ fp2).K (okPOf (okB (ok_isE rfl hX hNx) n_isinstance (by decide +kernel) (okAPCons (okPLoc 8) (okAPCons (okPOf (okGlo (v := .ref (G.ca 31)) gc_CellarError rfl (fun _ _ => rfl))) okAPNil))))))))))) (fun s2 H2 C2 cl2 fp2 => (okUse okInt)))) (okPOf (okLst okANil))) (okOne (okRet okBl)) okNil)
    (okOne (okIf (okW (okOr (okNot (okTru c.K (okPOf (okCallB c k__law_fields_right b__law_fields_right_3 (okACons (okUse (okLoc 4)) (okACons (okUse (okLoc 5)) (okACons (okUse (okLoc 6)) okANil))) (lenCons (lenCons (lenCons lenNil))))))) (okOr1 (okCmT (ok_ne c.toXJ) (okPOf (okCallB c k__law_raised b__law_raised_1 (okACons (okUse (okTup (okACons (okUse (okLoc 4)) okANil))) okANil) (lenCons lenNil))) (okPOf okStr))))) (okOne (okRet okBl)) okNil))))))))
    (okOne (okRet okBl)))))
/-! ### the head -/
theorem facts {P : Program} {w : World} {K : PySem.W.Frag} {h : Heap} {mg : Str → Option Value} {f : Addr} (X : K.In h) (Gn : h.Ns mainGlobals mg) (hfa : mg ("law" : Str) = some (.ref f)) (cX : SaysY fa fn xsL tsL w K) :
    ∃ fd : FuncData, (∀ (s : Shared) (v : Value), BindsTo s fd ⟨[v], []⟩ [("_law_script", v)]) ∧ ∀ base : Heap, K.In base → base.Ns mainGlobals mg → FnI P w (gOf K) mg base 6 f fd ["_law_script"] m_law := by
  have c := cX.d
  have hSm : SmOk (gOf K).K := smB_ok (cX.fact 1 rfl)
  have t_SIZES : mg "SIZES" = some (.ref (He.ga (gOf K).K "SIZES")) ∧ ∀ g H, Is (gOf K) g H (.tup [(.int 37), (.int 75), (.int 150)]) (.ref (He.ga (gOf K).K "SIZES")) := ⟨He.glo_ok X Gn (c.fact 62 (f := .glo "SIZES") rfl), tupC_ok (G := gOf) rfl (cX.fact 21 rfl)⟩
  have gf_age_of : mg "age_of" = some (.ref ((gOf K).fa 13)) := He.glo_ok X Gn (c.fact 6 (f := .glo "age_of") rfl)
  obtain ⟨hX, hSub, hE⟩ := excFactH_ok (G := gOf) rfl (cX.fact 0 rfl)
  have hsub_CellarError : SubOk (gOf K) nX ((gOf K).ca 31) sub_CellarError := subFact_ok (G := gOf) rfl (cX.fact 18 rfl)
  have hsub_HereError : SubOk (gOf K) nX ((gOf K).ca 32) sub_HereError := subFact_ok (G := gOf) rfl (cX.fact 19 rfl)
  have gc_Bottle : mg "Bottle" = some (.ref ((gOf K).ca 30)) := He.glo_ok X Gn (c.fact 29 (f := .glo "Bottle") rfl)
  have gc_CellarError : mg "CellarError" = some (.ref ((gOf K).ca 31)) := He.glo_ok X Gn (c.fact 30 (f := .glo "CellarError") rfl)
  have gc_Crowded : mg "Crowded" = some (.ref ((gOf K).ca 13)) := He.glo_ok X Gn (c.fact 31 (f := .glo "Crowded") rfl)
  have gc_Full : mg "Full" = some (.ref ((gOf K).ca 10)) := He.glo_ok X Gn (c.fact 32 (f := .glo "Full") rfl)
  have gc_Gone : mg "Gone" = some (.ref ((gOf K).ca 11)) := He.glo_ok X Gn (c.fact 33 (f := .glo "Gone") rfl)
  have gc_HereError : mg "HereError" = some (.ref ((gOf K).ca 32)) := He.glo_ok X Gn (c.fact 34 (f := .glo "HereError") rfl)
  have gc_Kept : mg "Kept" = some (.ref ((gOf K).ca 29)) := He.glo_ok X Gn (c.fact 35 (f := .glo "Kept") rfl)
  have gc_NoBottle : mg "NoBottle" = some (.ref ((gOf K).ca 4)) := He.glo_ok X Gn (c.fact 36 (f := .glo "NoBottle") rfl)
  have gc_NoBottles : mg "NoBottles" = some (.ref ((gOf K).ca 0)) := He.glo_ok X Gn (c.fact 37 (f := .glo "NoBottles") rfl)
  have gc_NoDeed : mg "NoDeed" = some (.ref ((gOf K).ca 15)) := He.glo_ok X Gn (c.fact 38 (f := .glo "NoDeed") rfl)
  have gc_NoHints : mg "NoHints" = some (.ref ((gOf K).ca 24)) := He.glo_ok X Gn (c.fact 39 (f := .glo "NoHints") rfl)
  have gc_NoHold : mg "NoHold" = some (.ref ((gOf K).ca 6)) := He.glo_ok X Gn (c.fact 40 (f := .glo "NoHold") rfl)
  have gc_NoLine : mg "NoLine" = some (.ref ((gOf K).ca 26)) := He.glo_ok X Gn (c.fact 41 (f := .glo "NoLine") rfl)
  have gc_NoList : mg "NoList" = some (.ref ((gOf K).ca 22)) := He.glo_ok X Gn (c.fact 42 (f := .glo "NoList") rfl)
  have gc_NoLost : mg "NoLost" = some (.ref ((gOf K).ca 23)) := He.glo_ok X Gn (c.fact 43 (f := .glo "NoLost") rfl)
  have gc_NoMaker : mg "NoMaker" = some (.ref ((gOf K).ca 1)) := He.glo_ok X Gn (c.fact 44 (f := .glo "NoMaker") rfl)
  have gc_NoMonth : mg "NoMonth" = some (.ref ((gOf K).ca 7)) := He.glo_ok X Gn (c.fact 45 (f := .glo "NoMonth") rfl)
  have gc_NoNotes : mg "NoNotes" = some (.ref ((gOf K).ca 20)) := He.glo_ok X Gn (c.fact 46 (f := .glo "NoNotes") rfl)
  have gc_NoNumber : mg "NoNumber" = some (.ref ((gOf K).ca 27)) := He.glo_ok X Gn (c.fact 47 (f := .glo "NoNumber") rfl)
  have gc_NoOrder : mg "NoOrder" = some (.ref ((gOf K).ca 21)) := He.glo_ok X Gn (c.fact 48 (f := .glo "NoOrder") rfl)
  have gc_NoPlace : mg "NoPlace" = some (.ref ((gOf K).ca 28)) := He.glo_ok X Gn (c.fact 49 (f := .glo "NoPlace") rfl)
  have gc_NoRate : mg "NoRate" = some (.ref ((gOf K).ca 18)) := He.glo_ok X Gn (c.fact 50 (f := .glo "NoRate") rfl)
  have gc_NoRooms : mg "NoRooms" = some (.ref ((gOf K).ca 5)) := He.glo_ok X Gn (c.fact 51 (f := .glo "NoRooms") rfl)
  have gc_NoSet : mg "NoSet" = some (.ref ((gOf K).ca 9)) := He.glo_ok X Gn (c.fact 52 (f := .glo "NoSet") rfl)
  have gc_NoSize : mg "NoSize" = some (.ref ((gOf K).ca 3)) := He.glo_ok X Gn (c.fact 53 (f := .glo "NoSize") rfl)
  have gc_NoSpan : mg "NoSpan" = some (.ref ((gOf K).ca 17)) := He.glo_ok X Gn (c.fact 54 (f := .glo "NoSpan") rfl)
  have gc_NoSpans : mg "NoSpans" = some (.ref ((gOf K).ca 16)) := He.glo_ok X Gn (c.fact 55 (f := .glo "NoSpans") rfl)
  have gc_NoText : mg "NoText" = some (.ref ((gOf K).ca 14)) := He.glo_ok X Gn (c.fact 56 (f := .glo "NoText") rfl)
  have gc_NoWay : mg "NoWay" = some (.ref ((gOf K).ca 25)) := He.glo_ok X Gn (c.fact 57 (f := .glo "NoWay") rfl)
  have gc_NoWho : mg "NoWho" = some (.ref ((gOf K).ca 8)) := He.glo_ok X Gn (c.fact 58 (f := .glo "NoWho") rfl)
  have gc_NoWishes : mg "NoWishes" = some (.ref ((gOf K).ca 19)) := He.glo_ok X Gn (c.fact 59 (f := .glo "NoWishes") rfl)
  have gc_NoYear : mg "NoYear" = some (.ref ((gOf K).ca 2)) := He.glo_ok X Gn (c.fact 60 (f := .glo "NoYear") rfl)
  have gc_TooMany : mg "TooMany" = some (.ref ((gOf K).ca 12)) := He.glo_ok X Gn (c.fact 61 (f := .glo "TooMany") rfl)
  have er_NoBottle : ExcR (gOf K).K ((gOf K).ca 4) := hE 4 (by decide)
  have er_NoBottles : ExcR (gOf K).K ((gOf K).ca 0) := hE 0 (by decide)
  have er_NoDeed : ExcR (gOf K).K ((gOf K).ca 15) := hE 15 (by decide)
  have er_NoHints : ExcR (gOf K).K ((gOf K).ca 24) := hE 24 (by decide)
  have er_NoHold : ExcR (gOf K).K ((gOf K).ca 6) := hE 6 (by decide)
  have er_NoLine : ExcR (gOf K).K ((gOf K).ca 26) := hE 26 (by decide)
  have er_NoList : ExcR (gOf K).K ((gOf K).ca 22) := hE 22 (by decide)
  have er_NoLost : ExcR (gOf K).K ((gOf K).ca 23) := hE 23 (by decide)
  have er_NoMaker : ExcR (gOf K).K ((gOf K).ca 1) := hE 1 (by decide)
  have er_NoMonth : ExcR (gOf K).K ((gOf K).ca 7) := hE 7 (by decide)
  have er_NoNotes : ExcR (gOf K).K ((gOf K).ca 20) := hE 20 (by decide)
  have er_NoNumber : ExcR (gOf K).K ((gOf K).ca 27) := hE 27 (by decide)
  have er_NoOrder : ExcR (gOf K).K ((gOf K).ca 21) := hE 21 (by decide)
  have er_NoPlace : ExcR (gOf K).K ((gOf K).ca 28) := hE 28 (by decide)
  have er_NoRate : ExcR (gOf K).K ((gOf K).ca 18) := hE 18 (by decide)
  have er_NoRooms : ExcR (gOf K).K ((gOf K).ca 5) := hE 5 (by decide)
  have er_NoSet : ExcR (gOf K).K ((gOf K).ca 9) := hE 9 (by decide)
  have er_NoSize : ExcR (gOf K).K ((gOf K).ca 3) := hE 3 (by decide)
  have er_NoSpan : ExcR (gOf K).K ((gOf K).ca 17) := hE 17 (by decide)
  have er_NoSpans : ExcR (gOf K).K ((gOf K).ca 16) := hE 16 (by decide)
  have er_NoWay : ExcR (gOf K).K ((gOf K).ca 25) := hE 25 (by decide)
  have er_NoWho : ExcR (gOf K).K ((gOf K).ca 8) := hE 8 (by decide)
  have er_NoWishes : ExcR (gOf K).K ((gOf K).ca 19) := hE 19 (by decide)
  have er_NoYear : ExcR (gOf K).K ((gOf K).ca 2) := hE 2 (by decide)
  have hIu : IuOk (gOf K) 30 31 := iuFact_ok (G := gOf) rfl (cX.fact 20 rfl)
  have fd_maker : FdOk (gOf K) 30 10 "maker" := ⟨He.cls_ok (c.fact 20 (f := .cls "Bottle") rfl), He.noat_ok (c.fact 22 (f := .noat "Bottle" "maker") rfl), rfl, gaY_inj (by decide +kernel) (by decide +kernel) (by decide +kernel)⟩
  have fd_size : FdOk (gOf K) 30 12 "size" := ⟨He.cls_ok (c.fact 20 (f := .cls "Bottle") rfl), He.noat_ok (c.fact 23 (f := .noat "Bottle" "size") rfl), rfl, gaY_inj (by decide +kernel) (by decide +kernel) (by decide +kernel)⟩
  have fd_year : FdOk (gOf K) 30 11 "year" := ⟨He.cls_ok (c.fact 20 (f := .cls "Bottle") rfl), He.noat_ok (c.fact 24 (f := .noat "Bottle" "year") rfl), rfl, gaY_inj (by decide +kernel) (by decide +kernel) (by decide +kernel)⟩
  have xf_fate : XfOk (gOf K) nX 8 "fate" := ⟨xfFact_ok (G := gOf) rfl (cX.fact 2 rfl), rfl⟩
  have xf_first : XfOk (gOf K) nX 2 "first" := ⟨xfFact_ok (G := gOf) rfl (cX.fact 3 rfl), rfl⟩
  have xf_last : XfOk (gOf K) nX 3 "last" := ⟨xfFact_ok (G := gOf) rfl (cX.fact 4 rfl), rfl⟩
  have xf_line : XfOk (gOf K) nX 4 "line" := ⟨xfFact_ok (G := gOf) rfl (cX.fact 5 rfl), rfl⟩
  have xf_many : XfOk (gOf K) nX 0 "many" := ⟨xfFact_ok (G := gOf) rfl (cX.fact 6 rfl), rfl⟩
  have xf_most : XfOk (gOf K) nX 1 "most" := ⟨xfFact_ok (G := gOf) rfl (cX.fact 7 rfl), rfl⟩
  have xf_number : XfOk (gOf K) nX 7 "number" := ⟨xfFact_ok (G := gOf) rfl (cX.fact 8 rfl), rfl⟩
  have xf_others : XfOk (gOf K) nX 9 "others" := ⟨xfFact_ok (G := gOf) rfl (cX.fact 9 rfl), rfl⟩
  have xf_room : XfOk (gOf K) nX 5 "room" := ⟨xfFact_ok (G := gOf) rfl (cX.fact 10 rfl), rfl⟩
  have xf_shelf : XfOk (gOf K) nX 6 "shelf" := ⟨xfFact_ok (G := gOf) rfl (cX.fact 11 rfl), rfl⟩
  obtain ⟨d_TooMany___init__, F_TooMany___init__⟩ := c.def_ 0 (d := dd_TooMany___init__) rfl
  obtain ⟨d_Crowded___init__, F_Crowded___init__⟩ := c.def_ 1 (d := dd_Crowded___init__) rfl
  obtain ⟨d_NoText___init__, F_NoText___init__⟩ := c.def_ 2 (d := dd_NoText___init__) rfl
  obtain ⟨d_Full___init__, F_Full___init__⟩ := c.def_ 3 (d := dd_Full___init__) rfl
  obtain ⟨d_Gone___init__, F_Gone___init__⟩ := c.def_ 4 (d := dd_Gone___init__) rfl
  obtain ⟨d_Kept___init__, F_Kept___init__⟩ := c.def_ 5 (d := dd_Kept___init__) rfl
  obtain ⟨d_is_whole, F_is_whole⟩ := c.def_ 6 (d := dd_is_whole) rfl
  have g_is_whole := He.glo_ok X Gn (c.fact 0 (f := .glo "is_whole") rfl)
  obtain ⟨d_is_within, F_is_within⟩ := c.def_ 7 (d := dd_is_within) rfl
  have g_is_within := He.glo_ok X Gn (c.fact 1 (f := .glo "is_within") rfl)
  obtain ⟨d_is_word, F_is_word⟩ := c.def_ 8 (d := dd_is_word) rfl
  have g_is_word := He.glo_ok X Gn (c.fact 2 (f := .glo "is_word") rfl)
  obtain ⟨d_is_size, F_is_size⟩ := c.def_ 9 (d := dd_is_size) rfl
  have g_is_size := He.glo_ok X Gn (c.fact 3 (f := .glo "is_size") rfl)
  obtain ⟨d_is_year, F_is_year⟩ := c.def_ 10 (d := dd_is_year) rfl
  have g_is_year := He.glo_ok X Gn (c.fact 4 (f := .glo "is_year") rfl)
  obtain ⟨d_Bottle___init__, F_Bottle___init__⟩ := c.def_ 11 (d := dd_Bottle___init__) rfl
  obtain ⟨d_is_bottle, F_is_bottle⟩ := c.def_ 12 (d := dd_is_bottle) rfl
  have g_is_bottle := He.glo_ok X Gn (c.fact 5 (f := .glo "is_bottle") rfl)
  obtain ⟨d_age_of, F_age_of⟩ := c.def_ 13 (d := dd_age_of) rfl
  have g_age_of := He.glo_ok X Gn (c.fact 6 (f := .glo "age_of") rfl)
  obtain ⟨d_are_bottles, F_are_bottles⟩ := c.def_ 14 (d := dd_are_bottles) rfl
  have g_are_bottles := He.glo_ok X Gn (c.fact 7 (f := .glo "are_bottles") rfl)
  obtain ⟨d_check_bottles, F_check_bottles⟩ := c.def_ 15 (d := dd_check_bottles) rfl
  have g_check_bottles := He.glo_ok X Gn (c.fact 8 (f := .glo "check_bottles") rfl)
  obtain ⟨d_by_age, F_by_age⟩ := c.def_ 16 (d := dd_by_age) rfl
  have g_by_age := He.glo_ok X Gn (c.fact 9 (f := .glo "by_age") rfl)
  obtain ⟨d__law_cell_at, F__law_cell_at⟩ := c.def_ 17 (d := dd__law_cell_at) rfl
  have g__law_cell_at := He.glo_ok X Gn (c.fact 10 (f := .glo "_law_cell_at") rfl)
  obtain ⟨d__law_pot, F__law_pot⟩ := c.def_ 18 (d := dd__law_pot) rfl
  have g__law_pot := He.glo_ok X Gn (c.fact 11 (f := .glo "_law_pot") rfl)
  obtain ⟨d__law_take, F__law_take⟩ := c.def_ 19 (d := dd__law_take) rfl
  have g__law_take := He.glo_ok X Gn (c.fact 12 (f := .glo "_law_take") rfl)
  obtain ⟨d__law_word, F__law_word⟩ := c.def_ 20 (d := dd__law_word) rfl
  have g__law_word := He.glo_ok X Gn (c.fact 13 (f := .glo "_law_word") rfl)
  obtain ⟨d__law_plain_ones, F__law_plain_ones⟩ := c.def_ 21 (d := dd__law_plain_ones) rfl
  have g__law_plain_ones := He.glo_ok X Gn (c.fact 14 (f := .glo "_law_plain_ones") rfl)
  obtain ⟨d__law_here_word, F__law_here_word⟩ := c.def_ 22 (d := dd__law_here_word) rfl
  have g__law_here_word := He.glo_ok X Gn (c.fact 15 (f := .glo "_law_here_word") rfl)
  obtain ⟨d__law_here_right, F__law_here_right⟩ := c.def_ 23 (d := dd__law_here_right) rfl
  have g__law_here_right := He.glo_ok X Gn (c.fact 16 (f := .glo "_law_here_right") rfl)
  obtain ⟨d__law_fields_right, F__law_fields_right⟩ := c.def_ 24 (d := dd__law_fields_right) rfl
  have g__law_fields_right := He.glo_ok X Gn (c.fact 17 (f := .glo "_law_fields_right") rfl)
  obtain ⟨d__law_raised, F__law_raised⟩ := c.def_ 25 (d := dd__law_raised) rfl
  have g__law_raised := He.glo_ok X Gn (c.fact 18 (f := .glo "_law_raised") rfl)
  obtain ⟨d_law, F_law⟩ := c.def_ 26 (d := dd_law) rfl
  have g_law := He.glo_ok X Gn (c.fact 19 (f := .glo "law") rfl)
  have e := hfa.symm.trans g_law
  cases e
  obtain ⟨t_FIRST_YEAR, e_FIRST_YEAR⟩ := He.int_ok X Gn (c.fact 25 (f := .int "FIRST_YEAR" 1900) rfl)
  have c_FIRST_YEAR : mg "FIRST_YEAR" = some (.int 1900 t_FIRST_YEAR) ∧ RelV (V.int 1900) (.int 1900 t_FIRST_YEAR) ∧ ∀ g H, Is (gOf K) g H (.int 1900) (V.int 1900) := ⟨e_FIRST_YEAR, ⟨_, rfl⟩, fun _ _ => by simp only [Is]⟩
  obtain ⟨t_LAST_YEAR, e_LAST_YEAR⟩ := He.int_ok X Gn (c.fact 26 (f := .int "LAST_YEAR" 2100) rfl)
  have c_LAST_YEAR : mg "LAST_YEAR" = some (.int 2100 t_LAST_YEAR) ∧ RelV (V.int 2100) (.int 2100 t_LAST_YEAR) ∧ ∀ g H, Is (gOf K) g H (.int 2100) (V.int 2100) := ⟨e_LAST_YEAR, ⟨_, rfl⟩, fun _ _ => by simp only [Is]⟩
  obtain ⟨t_LETTERS, e_LETTERS⟩ := He.str_ok X Gn (c.fact 28 (f := .str "LETTERS" ⟨#[97, 98, 99, 100, 101, 102, 103, 104, 105, 106, 107, 108, 109, 110, 111, 112, 113, 114, 115, 116, 117, 118, 119, 120, 121, 122]⟩) rfl)
  have c_LETTERS : mg "LETTERS" = some (.str ⟨#[97, 98, 99, 100, 101, 102, 103, 104, 105, 106, 107, 108, 109, 110, 111, 112, 113, 114, 115, 116, 117, 118, 119, 120, 121, 122]⟩ t_LETTERS) ∧ RelV (V.str ⟨#[97, 98, 99, 100, 101, 102, 103, 104, 105, 106, 107, 108, 109, 110, 111, 112, 113, 114, 115, 116, 117, 118, 119, 120, 121, 122]⟩) (.str ⟨#[97, 98, 99, 100, 101, 102, 103, 104, 105, 106, 107, 108, 109, 110, 111, 112, 113, 114, 115, 116, 117, 118, 119, 120, 121, 122]⟩ t_LETTERS) ∧ ∀ g H, Is (gOf K) g H (.str [97, 98, 99, 100, 101, 102, 103, 104, 105, 106, 107, 108, 109, 110, 111, 112, 113, 114, 115, 116, 117, 118, 119, 120, 121, 122]) (V.str ⟨#[97, 98, 99, 100, 101, 102, 103, 104, 105, 106, 107, 108, 109, 110, 111, 112, 113, 114, 115, 116, 117, 118, 119, 120, 121, 122]⟩) := ⟨e_LETTERS, ⟨_, rfl⟩, fun _ _ => by first | (simp only [Is]; exact ⟨rfl, by rw [sizeLine_eq]; decide⟩) | (simp only [Is, true_and]; rw [sizeLine_eq]; decide)⟩
  obtain ⟨t_MOST_SIGNS, e_MOST_SIGNS⟩ := He.int_ok X Gn (c.fact 27 (f := .int "MOST_SIGNS" 8) rfl)
  have c_MOST_SIGNS : mg "MOST_SIGNS" = some (.int 8 t_MOST_SIGNS) ∧ RelV (V.int 8) (.int 8 t_MOST_SIGNS) ∧ ∀ g H, Is (gOf K) g H (.int 8) (V.int 8) := ⟨e_MOST_SIGNS, ⟨_, rfl⟩, fun _ _ => by simp only [Is]⟩
  have n_LookupError := He.free_ok X Gn (c.fact 63 (f := .free "LookupError") rfl)
  have n_ValueError := He.free_ok X Gn (c.fact 64 (f := .free "ValueError") rfl)
  have n_all := He.free_ok X Gn (c.fact 65 (f := .free "all") rfl)
  have n_bool := He.free_ok X Gn (c.fact 66 (f := .free "bool") rfl)
  have n_int := He.free_ok X Gn (c.fact 67 (f := .free "int") rfl)
  have n_isinstance := He.free_ok X Gn (c.fact 68 (f := .free "isinstance") rfl)
  have n_len := He.free_ok X Gn (c.fact 69 (f := .free "len") rfl)
  have n_list := He.free_ok X Gn (c.fact 70 (f := .free "list") rfl)
  have n_max := He.free_ok X Gn (c.fact 71 (f := .free "max") rfl)
  have n_min := He.free_ok X Gn (c.fact 72 (f := .free "min") rfl)
  have n_range := He.free_ok X Gn (c.fact 73 (f := .free "range") rfl)
  have n_sorted := He.free_ok X Gn (c.fact 74 (f := .free "sorted") rfl)
  have n_str := He.free_ok X Gn (c.fact 75 (f := .free "str") rfl)
  have w_Crowded___init___1_many_last_first : KwI (gOf K) d_Crowded___init__ ["self", "first", "last", "many"] 1 ["many", "last", "first"] [.p 0, .k 2, .k 1, .k 0] [] := by
    obtain ⟨its, h⟩ := kbindsN (ps := ["self", "first", "last", "many"]) F_Crowded___init__ 1 ["many", "last", "first"] (fun us its ws => pickL [.p 0, .k 2, .k 1, .k 0] us its ws) (fun r1 r3 => pickL_vals r1 .nil r3) fun kV doc pm an cdv ct us ws h1 h3 => match us, ws, h1, h3 with | [_], [_, _, _], _, _ => rfl
    exact ⟨_, its, h, fun _ _ => by simp [PI.IsL, PI.Is, dd_Crowded___init__, He.DefD.dvs, He.Dv.v]⟩
  have b_Crowded___init___4 : Bd (gOf K) d_Crowded___init__ ["self", "first", "last", "many"] [] := ⟨[], [], F_Crowded___init__.bindsN fun _ _ _ _ _ _ us hl => match us, hl with | [_, _, _, _], _ => rfl, .nil, fun _ _ => by simp [PI.IsL]⟩
  have w_Full___init___1_shelf_room : KwI (gOf K) d_Full___init__ ["self", "room", "shelf"] 1 ["shelf", "room"] [.p 0, .k 1, .k 0] [] := by
    obtain ⟨its, h⟩ := kbindsN (ps := ["self", "room", "shelf"]) F_Full___init__ 1 ["shelf", "room"] (fun us its ws => pickL [.p 0, .k 1, .k 0] us its ws) (fun r1 r3 => pickL_vals r1 .nil r3) fun kV doc pm an cdv ct us ws h1 h3 => match us, ws, h1, h3 with | [_], [_, _], _, _ => rfl
    exact ⟨_, its, h, fun _ _ => by simp [PI.IsL, PI.Is, dd_Full___init__, He.DefD.dvs, He.Dv.v]⟩
  have b_Full___init___3 : Bd (gOf K) d_Full___init__ ["self", "room", "shelf"] [] := ⟨[], [], F_Full___init__.bindsN fun _ _ _ _ _ _ us hl => match us, hl with | [_, _, _], _ => rfl, .nil, fun _ _ => by simp [PI.IsL]⟩
  have w_Gone___init___1_fate_number : KwI (gOf K) d_Gone___init__ ["self", "number", "fate"] 1 ["fate", "number"] [.p 0, .k 1, .k 0] [] := by
    obtain ⟨its, h⟩ := kbindsN (ps := ["self", "number", "fate"]) F_Gone___init__ 1 ["fate", "number"] (fun us its ws => pickL [.p 0, .k 1, .k 0] us its ws) (fun r1 r3 => pickL_vals r1 .nil r3) fun kV doc pm an cdv ct us ws h1 h3 => match us, ws, h1, h3 with | [_], [_, _], _, _ => rfl
    exact ⟨_, its, h, fun _ _ => by simp [PI.IsL, PI.Is, dd_Gone___init__, He.DefD.dvs, He.Dv.v]⟩
  have b_Gone___init___3 : Bd (gOf K) d_Gone___init__ ["self", "number", "fate"] [] := ⟨[], [], F_Gone___init__.bindsN fun _ _ _ _ _ _ us hl => match us, hl with | [_, _, _], _ => rfl, .nil, fun _ _ => by simp [PI.IsL]⟩
  have w_Kept___init___1_number_others : KwI (gOf K) d_Kept___init__ ["self", "number", "others"] 1 ["number", "others"] [.p 0, .k 0, .k 1] [] := by
    obtain ⟨its, h⟩ := kbindsN (ps := ["self", "number", "others"]) F_Kept___init__ 1 ["number", "others"] (fun us its ws => pickL [.p 0, .k 0, .k 1] us its ws) (fun r1 r3 => pickL_vals r1 .nil r3) fun kV doc pm an cdv ct us ws h1 h3 => match us, ws, h1, h3 with | [_], [_, _], _, _ => rfl
    exact ⟨_, its, h, fun _ _ => by simp [PI.IsL, PI.Is, dd_Kept___init__, He.DefD.dvs, He.Dv.v]⟩
  have w_Kept___init___2_others : KwI (gOf K) d_Kept___init__ ["self", "number", "others"] 2 ["others"] [.p 0, .p 1, .k 0] [] := by
    obtain ⟨its, h⟩ := kbindsN (ps := ["self", "number", "others"]) F_Kept___init__ 2 ["others"] (fun us its ws => pickL [.p 0, .p 1, .k 0] us its ws) (fun r1 r3 => pickL_vals r1 .nil r3) fun kV doc pm an cdv ct us ws h1 h3 => match us, ws, h1, h3 with | [_, _], [_], _, _ => rfl
    exact ⟨_, its, h, fun _ _ => by simp [PI.IsL, PI.Is, dd_Kept___init__, He.DefD.dvs, He.Dv.v]⟩
  have b_NoText___init___1 : Bd (gOf K) d_NoText___init__ ["self", "line"] [(.int 0)] := by
    obtain ⟨ds, h1, h2⟩ := F_NoText___init__.binds1 (ps := ["self", "line"]) 1 0 (by simp [He.DefD.dvs, dd_NoText___init__]) rfl fun T kV doc pm an cdv ct us its h1 h2 => match us, its, h1, h2 with | [_], [_], _, _ => ⟨_, rfl, rfl⟩
    exact ⟨ds, _, h2, h1, fun _ _ => by simp [PI.IsL, PI.Is, dd_NoText___init__, He.DefD.dvs, He.Dv.v]⟩
  have w_NoText___init___1_line : KwI (gOf K) d_NoText___init__ ["self", "line"] 1 ["line"] [.p 0, .k 0] [(.int 0)] := by
    obtain ⟨its, h⟩ := F_NoText___init__.kbindsD (ps := ["self", "line"]) 1 ["line"] (fun us its ws => pickL [.p 0, .k 0] us its ws) (by simp [He.DefD.dvs, dd_NoText___init__]) (fun r1 r2 r3 => pickL_vals r1 r2 r3) fun T kV doc pm an cdv ct us its ws h1 h2 h3 => match us, its, ws, h1, h2, h3 with | [_], [_], [_], _, _, _ => ⟨_, rfl, rfl⟩
    exact ⟨_, its, h, fun _ _ => by simp [PI.IsL, PI.Is, dd_NoText___init__, He.DefD.dvs, He.Dv.v]⟩
  have b_NoText___init___2 : Bd (gOf K) d_NoText___init__ ["self", "line"] [] := by
    obtain ⟨ds, h1, h2⟩ := F_NoText___init__.binds1 (ps := ["self", "line"]) 2 1 (by simp [He.DefD.dvs, dd_NoText___init__]) rfl fun T kV doc pm an cdv ct us its h1 h2 => match us, its, h1, h2 with | [_, _], [_], _, _ => ⟨_, rfl, rfl⟩
    exact ⟨ds, _, h2, h1, fun _ _ => by simp [PI.IsL, PI.Is, dd_NoText___init__, He.DefD.dvs, He.Dv.v]⟩
  have w_TooMany___init___1_most_many : KwI (gOf K) d_TooMany___init__ ["self", "many", "most"] 1 ["most", "many"] [.p 0, .k 1, .k 0] [] := by
    obtain ⟨its, h⟩ := kbindsN (ps := ["self", "many", "most"]) F_TooMany___init__ 1 ["most", "many"] (fun us its ws => pickL [.p 0, .k 1, .k 0] us its ws) (fun r1 r3 => pickL_vals r1 .nil r3) fun kV doc pm an cdv ct us ws h1 h3 => match us, ws, h1, h3 with | [_], [_, _], _, _ => rfl
    exact ⟨_, its, h, fun _ _ => by simp [PI.IsL, PI.Is, dd_TooMany___init__, He.DefD.dvs, He.Dv.v]⟩
  have b_TooMany___init___3 : Bd (gOf K) d_TooMany___init__ ["self", "many", "most"] [] := ⟨[], [], F_TooMany___init__.bindsN fun _ _ _ _ _ _ us hl => match us, hl with | [_, _, _], _ => rfl, .nil, fun _ _ => by simp [PI.IsL]⟩
  have b__law_cell_at_2 : Bd (gOf K) d__law_cell_at ["_law_script", "_law_k"] [] := ⟨[], [], F__law_cell_at.bindsN fun _ _ _ _ _ _ us hl => match us, hl with | [_, _], _ => rfl, .nil, fun _ _ => by simp [PI.IsL]⟩
  have b__law_fields_right_3 : Bd (gOf K) d__law_fields_right ["_law_one", "_law_two", "_law_three"] [] := ⟨[], [], F__law_fields_right.bindsN fun _ _ _ _ _ _ us hl => match us, hl with | [_, _, _], _ => rfl, .nil, fun _ _ => by simp [PI.IsL]⟩
  have b__law_here_right_3 : Bd (gOf K) d__law_here_right ["_law_one", "_law_two", "_law_three"] [] := ⟨[], [], F__law_here_right.bindsN fun _ _ _ _ _ _ us hl => match us, hl with | [_, _, _], _ => rfl, .nil, fun _ _ => by simp [PI.IsL]⟩
  have b__law_here_word_1 : Bd (gOf K) d__law_here_word ["_law_e"] [] := ⟨[], [], F__law_here_word.bindsN fun _ _ _ _ _ _ us hl => match us, hl with | [_], _ => rfl, .nil, fun _ _ => by simp [PI.IsL]⟩
  have b__law_plain_ones_0 : Bd (gOf K) d__law_plain_ones [] [] := ⟨[], [], F__law_plain_ones.bindsN fun _ _ _ _ _ _ us hl => match us, hl with | [], _ => rfl, .nil, fun _ _ => by simp [PI.IsL]⟩
  have b__law_pot_1 : Bd (gOf K) d__law_pot ["_law_cell"] [] := ⟨[], [], F__law_pot.bindsN fun _ _ _ _ _ _ us hl => match us, hl with | [_], _ => rfl, .nil, fun _ _ => by simp [PI.IsL]⟩
  have b__law_raised_1 : Bd (gOf K) d__law_raised ["_law_thing"] [] := ⟨[], [], F__law_raised.bindsN fun _ _ _ _ _ _ us hl => match us, hl with | [_], _ => rfl, .nil, fun _ _ => by simp [PI.IsL]⟩
  have b__law_take_2 : Bd (gOf K) d__law_take ["_law_pot_here", "_law_far"] [] := ⟨[], [], F__law_take.bindsN fun _ _ _ _ _ _ us hl => match us, hl with | [_, _], _ => rfl, .nil, fun _ _ => by simp [PI.IsL]⟩
  have b__law_word_1 : Bd (gOf K) d__law_word ["_law_e"] [] := ⟨[], [], F__law_word.bindsN fun _ _ _ _ _ _ us hl => match us, hl with | [_], _ => rfl, .nil, fun _ _ => by simp [PI.IsL]⟩
  have b_age_of_1 : Bd (gOf K) d_age_of ["bottle"] [] := ⟨[], [], F_age_of.bindsN fun _ _ _ _ _ _ us hl => match us, hl with | [_], _ => rfl, .nil, fun _ _ => by simp [PI.IsL]⟩
  have b_are_bottles_1 : Bd (gOf K) d_are_bottles ["thing"] [] := ⟨[], [], F_are_bottles.bindsN fun _ _ _ _ _ _ us hl => match us, hl with | [_], _ => rfl, .nil, fun _ _ => by simp [PI.IsL]⟩
  have b_by_age_1 : Bd (gOf K) d_by_age ["bottles"] [] := ⟨[], [], F_by_age.bindsN fun _ _ _ _ _ _ us hl => match us, hl with | [_], _ => rfl, .nil, fun _ _ => by simp [PI.IsL]⟩
  have b_check_bottles_1 : Bd (gOf K) d_check_bottles ["bottles"] [] := ⟨[], [], F_check_bottles.bindsN fun _ _ _ _ _ _ us hl => match us, hl with | [_], _ => rfl, .nil, fun _ _ => by simp [PI.IsL]⟩
  have b_is_bottle_1 : Bd (gOf K) d_is_bottle ["thing"] [] := ⟨[], [], F_is_bottle.bindsN fun _ _ _ _ _ _ us hl => match us, hl with | [_], _ => rfl, .nil, fun _ _ => by simp [PI.IsL]⟩
  have b_is_size_1 : Bd (gOf K) d_is_size ["thing"] [] := ⟨[], [], F_is_size.bindsN fun _ _ _ _ _ _ us hl => match us, hl with | [_], _ => rfl, .nil, fun _ _ => by simp [PI.IsL]⟩
  have b_is_whole_1 : Bd (gOf K) d_is_whole ["thing"] [] := ⟨[], [], F_is_whole.bindsN fun _ _ _ _ _ _ us hl => match us, hl with | [_], _ => rfl, .nil, fun _ _ => by simp [PI.IsL]⟩
  have b_is_within_3 : Bd (gOf K) d_is_within ["thing", "least", "most"] [] := ⟨[], [], F_is_within.bindsN fun _ _ _ _ _ _ us hl => match us, hl with | [_, _, _], _ => rfl, .nil, fun _ _ => by simp [PI.IsL]⟩
  have b_is_word_1 : Bd (gOf K) d_is_word ["thing", "least"] [(.int 1)] := by
    obtain ⟨ds, h1, h2⟩ := F_is_word.binds1 (ps := ["thing", "least"]) 1 0 (by simp [He.DefD.dvs, dd_is_word]) rfl fun T kV doc pm an cdv ct us its h1 h2 => match us, its, h1, h2 with | [_], [_], _, _ => ⟨_, rfl, rfl⟩
    exact ⟨ds, _, h2, h1, fun _ _ => by simp [PI.IsL, PI.Is, dd_is_word, He.DefD.dvs, He.Dv.v]⟩
  have b_is_year_1 : Bd (gOf K) d_is_year ["thing"] [] := ⟨[], [], F_is_year.bindsN fun _ _ _ _ _ _ us hl => match us, hl with | [_], _ => rfl, .nil, fun _ _ => by simp [PI.IsL]⟩
  refine ⟨d_law, fun s v => ?_, fun base _ _ => ?_⟩
  · exact FunD.bindsA (ps := ["_law_script"]) F_law (fun _ _ _ _ _ _ us hl => match us, hl with | [_], _ => rfl) s [v] rfl
  have ke_TooMany : KnE P w (gOf K) mg base 12 "TooMany" [0, 1] ["self", "many", "most"] _ d_TooMany___init__ := keFact_ok (G := gOf) rfl (cX.fact 12 rfl) gc_TooMany (o_TooMany___init__ F_TooMany___init__) (by show (["many", "most"] : List Str).Nodup; decide +kernel) rfl
  have ke_Crowded : KnE P w (gOf K) mg base 13 "Crowded" [2, 3, 0] ["self", "first", "last", "many"] _ d_Crowded___init__ := keFact_ok (G := gOf) rfl (cX.fact 13 rfl) gc_Crowded (o_Crowded___init__ F_Crowded___init__) (by show (["first", "last", "many"] : List Str).Nodup; decide +kernel) rfl
  have ke_NoText : KnE P w (gOf K) mg base 14 "NoText" [4] ["self", "line"] _ d_NoText___init__ := keFact_ok (G := gOf) rfl (cX.fact 14 rfl) gc_NoText (o_NoText___init__ F_NoText___init__) (by show (["line"] : List Str).Nodup; decide +kernel) rfl
  have ke_Full : KnEL P w (gOf K) mg base 10 "Full" [5, 6] ["self", "room", "shelf"] _ d_Full___init__ := keFactL_ok (G := gOf) rfl (cX.fact 15 rfl) gc_Full (o_Full___init__ F_Full___init__) (by show (["room", "shelf"] : List Str).Nodup; decide +kernel) rfl
  have ke_Gone : KnEL P w (gOf K) mg base 11 "Gone" [7, 8] ["self", "number", "fate"] _ d_Gone___init__ := keFactL_ok (G := gOf) rfl (cX.fact 16 rfl) gc_Gone (o_Gone___init__ F_Gone___init__) (by show (["number", "fate"] : List Str).Nodup; decide +kernel) rfl
  have ke_Kept : KnEL P w (gOf K) mg base 29 "Kept" [7, 9] ["self", "number", "others"] _ d_Kept___init__ := keFactL_ok (G := gOf) rfl (cX.fact 17 rfl) gc_Kept (o_Kept___init__ F_Kept___init__) (by show (["number", "others"] : List Str).Nodup; decide +kernel) rfl
  have hNx : ∀ a c dd, ¬ (gOf K).xs a c dd := fun _ _ _ h => h
  have k_is_whole : Kn P w (gOf K) mg base 1 "is_whole" ["thing"] m_is_whole _ d_is_whole := ⟨g_is_whole, F_is_whole.kp, o_is_whole F_is_whole n_bool n_int n_isinstance⟩
  have k_is_within : Kn P w (gOf K) mg base 2 "is_within" ["thing", "least", "most"] m_is_within _ d_is_within := ⟨g_is_within, F_is_within.kp, o_is_within F_is_within (k_is_whole.mono (by omega)) b_is_whole_1⟩
  have k_is_word : Kn P w (gOf K) mg base 1 "is_word" ["thing", "least"] m_is_word _ d_is_word := ⟨g_is_word, F_is_word.kp, o_is_word F_is_word c_LETTERS c_MOST_SIGNS n_all n_isinstance n_len n_str⟩
  have k_is_size : Kn P w (gOf K) mg base 2 "is_size" ["thing"] m_is_size _ d_is_size := ⟨g_is_size, F_is_size.kp, o_is_size F_is_size (k_is_whole.mono (by omega)) b_is_whole_1 t_SIZES⟩
  have k_is_year : Kn P w (gOf K) mg base 3 "is_year" ["thing"] m_is_year _ d_is_year := ⟨g_is_year, F_is_year.kp, o_is_year F_is_year (k_is_within.mono (by omega)) b_is_within_3 c_FIRST_YEAR c_LAST_YEAR⟩
  have k_Bottle : KnC P w (gOf K) mg base 4 30 "Bottle" ["self", "maker", "year", "size"] m_Bottle___init__ _ d_Bottle___init__ := ⟨gc_Bottle, He.mkr_ok (c.fact 21 (f := .mkr "Bottle") rfl), o_Bottle___init__ F_Bottle___init__ (k_is_word.mono (by omega)) (k_is_year.mono (by omega)) (k_is_size.mono (by omega)) b_is_size_1 b_is_word_1 b_is_year_1 fd_maker fd_size fd_year gc_NoMaker gc_NoSize gc_NoYear er_NoMaker er_NoSize er_NoYear⟩
  have k_is_bottle : Kn P w (gOf K) mg base 1 "is_bottle" ["thing"] m_is_bottle _ d_is_bottle := ⟨g_is_bottle, F_is_bottle.kp, o_is_bottle F_is_bottle hIu gc_Bottle n_isinstance⟩
  have k_age_of : Kn P w (gOf K) mg base 1 "age_of" ["bottle"] m_age_of _ d_age_of := ⟨g_age_of, F_age_of.kp, o_age_of F_age_of fd_maker fd_size fd_year⟩
  have kv_age_of_1 : KnV P w (gOf K) mg base 1 1 13 m_age_of := ⟨d_age_of, ["bottle"], F_age_of.kp, k_age_of.fn, b_age_of_1, rfl⟩
  have k_are_bottles : Kn P w (gOf K) mg base 2 "are_bottles" ["thing"] m_are_bottles _ d_are_bottles := ⟨g_are_bottles, F_are_bottles.kp, o_are_bottles F_are_bottles (k_is_bottle.mono (by omega)) b_is_bottle_1 n_all n_isinstance n_list⟩
  have k_check_bottles : Kn P w (gOf K) mg base 3 "check_bottles" ["bottles"] m_check_bottles _ d_check_bottles := ⟨g_check_bottles, F_check_bottles.kp, o_check_bottles F_check_bottles (k_are_bottles.mono (by omega)) b_are_bottles_1 gc_NoBottles er_NoBottles⟩
  have k_by_age : Kn P w (gOf K) mg base 4 "by_age" ["bottles"] m_by_age _ d_by_age := ⟨g_by_age, F_by_age.kp, o_by_age F_by_age (k_check_bottles.mono (by omega)) b_age_of_1 b_check_bottles_1 gf_age_of (kv_age_of_1.mono (by omega)) n_sorted⟩
  have k__law_cell_at : Kn P w (gOf K) mg base 1 "_law_cell_at" ["_law_script", "_law_k"] m__law_cell_at _ d__law_cell_at := ⟨g__law_cell_at, F__law_cell_at.kp, o__law_cell_at F__law_cell_at n_len⟩
  have k__law_pot : Kn P w (gOf K) mg base 1 "_law_pot" ["_law_cell"] m__law_pot _ d__law_pot := ⟨g__law_pot, F__law_pot.kp, o__law_pot F__law_pot n_range⟩
  have k__law_take : Kn P w (gOf K) mg base 1 "_law_take" ["_law_pot_here", "_law_far"] m__law_take _ d__law_take := ⟨g__law_take, F__law_take.kp, o__law_take F__law_take ⟩
  have k__law_word : Kn P w (gOf K) mg base 1 "_law_word" ["_law_e"] m__law_word _ d__law_word := ⟨g__law_word, F__law_word.kp, oo__law_word F__law_word gc_Crowded gc_HereError gc_NoBottle gc_NoBottles gc_NoDeed gc_NoHints gc_NoHold gc_NoLine gc_NoList gc_NoLost gc_NoMaker gc_NoMonth gc_NoNotes gc_NoNumber gc_NoOrder gc_NoPlace gc_NoRate gc_NoRooms gc_NoSet gc_NoSize gc_NoSpan gc_NoSpans gc_NoText gc_NoWay gc_NoWho gc_NoWishes gc_NoYear gc_TooMany hX n_LookupError n_ValueError n_isinstance hNx⟩
  have kx__law_word : KnX P w (gOf K) mg base 1 "_law_word" "_law_e" nX (hotOf m__law_word) _ d__law_word := ⟨g__law_word, F__law_word.kp, o__law_word F__law_word gc_Crowded gc_HereError gc_NoBottle gc_NoBottles gc_NoDeed gc_NoHints gc_NoHold gc_NoLine gc_NoList gc_NoLost gc_NoMaker gc_NoMonth gc_NoNotes gc_NoNumber gc_NoOrder gc_NoPlace gc_NoRate gc_NoRooms gc_NoSet gc_NoSize gc_NoSpan gc_NoSpans gc_NoText gc_NoWay gc_NoWho gc_NoWishes gc_NoYear gc_TooMany hX n_LookupError n_ValueError n_isinstance, F__law_word.bindsN fun _ _ _ _ _ _ us hl => match us, hl with | [_], _ => rfl⟩
  have k__law_plain_ones : Kn P w (gOf K) mg base 1 "_law_plain_ones" [] m__law_plain_ones _ d__law_plain_ones := ⟨g__law_plain_ones, F__law_plain_ones.kp, o__law_plain_ones F__law_plain_ones gc_NoBottle gc_NoBottles gc_NoDeed gc_NoHints gc_NoHold gc_NoLine gc_NoList gc_NoLost gc_NoMaker gc_NoMonth gc_NoNotes gc_NoNumber gc_NoOrder gc_NoPlace gc_NoRate gc_NoRooms gc_NoSet gc_NoSize gc_NoSpan gc_NoSpans gc_NoWay gc_NoWho gc_NoWishes gc_NoYear er_NoBottle er_NoBottles er_NoDeed er_NoHints er_NoHold er_NoLine er_NoList er_NoLost er_NoMaker er_NoMonth er_NoNotes er_NoNumber er_NoOrder er_NoPlace er_NoRate er_NoRooms er_NoSet er_NoSize er_NoSpan er_NoSpans er_NoWay er_NoWho er_NoWishes er_NoYear⟩
  have k__law_here_word : Kn P w (gOf K) mg base 1 "_law_here_word" ["_law_e"] m__law_here_word _ d__law_here_word := ⟨g__law_here_word, F__law_here_word.kp, o__law_here_word F__law_here_word gc_CellarError gc_Full gc_Gone gc_HereError gc_Kept hX hNx n_LookupError n_ValueError n_isinstance⟩
  have k__law_here_right : Kn P w (gOf K) mg base 3 "_law_here_right" ["_law_one", "_law_two", "_law_three"] m__law_here_right _ d__law_here_right := ⟨g__law_here_right, F__law_here_right.kp, o__law_here_right F__law_here_right (k__law_here_word.mono (by omega)) w_Full___init___1_shelf_room b_Full___init___3 w_Gone___init___1_fate_number b_Gone___init___3 w_Kept___init___1_number_others w_Kept___init___2_others b__law_here_word_1 xf_fate xf_number xf_others xf_room xf_shelf ke_Full ke_Gone ke_Kept gc_Full gc_Gone gc_Kept⟩
  have k__law_fields_right : Kn P w (gOf K) mg base 3 "_law_fields_right" ["_law_one", "_law_two", "_law_three"] m__law_fields_right _ d__law_fields_right := ⟨g__law_fields_right, F__law_fields_right.kp, o__law_fields_right F__law_fields_right (k__law_word.mono (by omega)) w_Crowded___init___1_many_last_first b_Crowded___init___4 b_NoText___init___1 w_NoText___init___1_line b_NoText___init___2 w_TooMany___init___1_most_many b_TooMany___init___3 b__law_word_1 xf_first xf_last xf_line xf_many xf_most ke_Crowded ke_NoText ke_TooMany gc_Crowded gc_NoText gc_TooMany⟩
  have k__law_raised : Kn P w (gOf K) mg base 5 "_law_raised" ["_law_thing"] m__law_raised _ d__law_raised := ⟨g__law_raised, F__law_raised.kp, o__law_raised F__law_raised (k_by_age.mono (by omega)) ⟨kx__law_word.m, kx__law_word.kp, kx__law_word.fn.mono (by omega), kx__law_word.bd⟩ b_by_age_1 gc_CellarError gc_HereError hsub_CellarError hsub_HereError⟩
  exact o_law F_law (k__law_pot.mono (by omega)) (k__law_cell_at.mono (by omega)) (k__law_take.mono (by omega)) (k__law_plain_ones.mono (by omega)) (k__law_word.mono (by omega)) (k__law_here_right.mono (by omega)) (k__law_fields_right.mono (by omega)) (k__law_raised.mono (by omega)) b__law_cell_at_2 b__law_fields_right_3 b__law_here_right_3 b__law_plain_ones_0 b__law_pot_1 b__law_raised_1 b__law_take_2 b__law_word_1 gc_CellarError hX hNx n_LookupError n_isinstance n_len n_max n_min n_range
end L04
set_option maxHeartbeats 0
/-! PIDict: dicts with numbers as keys; sets of numbers. -/
namespace PI
open PySem
def dI (l : List (Int × D)) : List (D × D) := l.map fun p => (.int p.1, p.2)
section
variable (l : List (Int × D)) (k : Int)
@[simp] theorem keyEq_i (a b : Int) : keyEq (.int a) (.int b) = (a == b) := by simp only [keyEq]
@[simp] theorem dI_len : (dI l).length = l.length := List.length_map ..
end
/-! sets of numbers -/
/-! keys put -/
/-! ranges -/
def rangeI (lo hi : Int) : List Int := (List.range (hi - lo).toNat).map fun (i : Nat) => lo + i
theorem rangeD_I (lo hi : Int) : rangeD lo hi = lI (rangeI lo hi) := by simp [rangeD, rangeI, lI, Function.comp_def]
/-! least, greatest -/
end PI
namespace PI
open PySem
/-- a pot with a number that is left -/
def Pot (n : Nat) (M : MH) : Prop := ∃ p : Int, 0 ≤ p ∧ M[n]? = some (.lst [.int p])
theorem fPow_c (i j : Int) (h : 0 ≤ j ∧ j ≤ 1000) (h2 : -(2 ^ 63) < i ∧ i < 2 ^ 64) : fPow (.int i) (.int j) = some (.val (.int (i ^ j.toNat))) := by
  have : 0 ≤ j ∧ j ≤ 1000 ∧ small i = true ∧ -(2 ^ 63) < i := ⟨h.1, h.2, by simp only [small, decide_eq_true_eq]; omega, h2.1⟩
  simp only [fPow, this, and_self, if_true, sv]
@[simp] theorem thg_i (i : Int) : (D.int i).thg = true := rfl
@[simp] theorem thg_t (xs : List D) : (D.tup xs).thg = true := rfl
@[simp] theorem thg_l (xs : List D) : (D.lst xs).thg = true := rfl
@[simp] theorem thg_s (xs : List Nat) : (D.str xs).thg = true := rfl
/-! slices -/
end PI
/-! PIStr: values with a Lean type: equality, in, index; texts: order, sets, dicts. -/
namespace PI
open PySem
/-- a type whose values are data -/
class Dm (α : Type) [DecidableEq α] where
  em : α → D
  da : α → PyData
  dat_em : ∀ a, dat (em a) = some (da a)
  plain : ∀ a, (da a).plain = true
  eqv : ∀ a b, PyData.eqv (da a) (da b) = decide (a = b)
  dep : Nat
  depth_le : ∀ a, (da a).depth ≤ dep
abbrev Tx := List Nat
instance : Dm Int where
  em := .int
  da := .int
  dat_em _ := rfl
  plain _ := rfl
  eqv a b := by simp only [PyData.eqv]; exact W.beq_decide a b
  dep := 0
  depth_le _ := Nat.le_refl _
theorem str_eq_iff (a b : Tx) : ((⟨a.toArray⟩ : Str) = ⟨b.toArray⟩) ↔ a = b := by
  constructor
  · intro h
    have := congrArg (fun s : Str => s.cps.toList) h
    simpa using this
  · intro h; rw [h]
instance : Dm Tx where
  em := .str
  da a := .str ⟨a.toArray⟩
  dat_em _ := rfl
  plain _ := rfl
  eqv a b := by
    simp only [PyData.eqv]
    rw [W.beq_decide]
    exact decide_eq_decide.mpr (str_eq_iff a b)
  dep := 0
  depth_le _ := Nat.le_refl _
/-- a tuple of items of one type -/
structure Tp (α : Type) where
  its : List α
  deriving DecidableEq
section
variable {α : Type} [DecidableEq α] [Dm α]
open Dm
theorem datL_em (xs : List α) : datL (xs.map em) = some (xs.map da) := datL_map em da xs fun x _ => dat_em x
theorem plainAll_da : ∀ xs : List α, PyData.plainAll (xs.map da) = true
  | [] => rfl
  | x :: xs => by
    rw [List.map_cons, PyData.plainAll, Dm.plain x, plainAll_da xs] <;> rfl
theorem depthAll_da : ∀ xs : List α, PyData.depthAll (xs.map da) ≤ Dm.dep α
  | [] => Nat.zero_le _
  | x :: xs => by
    rw [List.map_cons, PyData.depthAll]
    exact Nat.max_le.mpr ⟨Dm.depth_le x, depthAll_da xs⟩
theorem eqvAll_da : ∀ xs ys : List α, PyData.eqvAll (xs.map da) (ys.map da) = decide (xs = ys)
  | [], [] => by simp only [List.map_nil, PyData.eqvAll, decide_true]
  | [], _ :: _ => by simp [PyData.eqvAll]
  | _ :: _, [] => by simp [PyData.eqvAll]
  | x :: xs, y :: ys => by
    rw [List.map_cons, List.map_cons, PyData.eqvAll, Dm.eqv x y, eqvAll_da xs ys, ← Bool.decide_and]
    exact decide_eq_decide.mpr (by rw [List.cons.injEq])
instance : Dm (Tp α) where
  em t := .tup (t.its.map em)
  da t := .tuple (t.its.map da)
  dat_em t := by
    show (datL (t.its.map em)).map _ = _
    rw [datL_em] <;> rfl
  plain t := by simp only [PyData.plain]; exact plainAll_da t.its
  eqv t u := by
    simp only [PyData.eqv]
    rw [eqvAll_da]
    exact decide_eq_decide.mpr ⟨fun e => by cases t; cases u; exact congrArg Tp.mk e, fun e => by rw [e]⟩
  dep := Dm.dep α + 1
  depth_le t := by simp only [PyData.depth]; exact Nat.succ_le_succ (depthAll_da t.its)
end
/-! ### texts -/
def lS (ss : List Tx) : List D := ss.map fun a => .str a
@[simp] theorem lS_len (ss : List Tx) : (lS ss).length = ss.length := List.length_map ..
/-! sets of texts -/
@[simp] theorem keyEq_s (a b : Tx) : keyEq (.str a) (.str b) = (a == b) := by simp only [keyEq]
/-! dicts with texts as keys -/
def dS (l : List (Tx × D)) : List (D × D) := l.map fun p => (.str p.1, p.2)
section
variable (l : List (Tx × D)) (k : Tx)
@[simp] theorem dS_len : (dS l).length = l.length := List.length_map ..
end
end PI
/-! PIPair: pairs of a list, their counts; the least by a strict total order; orders of texts. -/
namespace PI
open PySem
/-! ### the first of the least -/
/-! ### orders of texts -/
end PI
namespace PI
open PySem
/-! dicts with two texts as a key -/
def dP (l : List ((Tx × Tx) × Int)) : List (D × D) := l.map fun p => (.tup [.str p.1.1, .str p.1.2], .int p.2)
section
variable (l : List ((Tx × Tx) × Int)) (a b : Tx)
@[simp] theorem dP_len : (dP l).length = l.length := List.length_map ..
end
end PI
namespace PI
open PySem
/-! ### tuples of texts compared -/
end PI
namespace L04
open PySem PI
theorem t_take (p far : Int) (M : MH) (n : Nat) (h : M[n]? = some (.lst [.int p])) (h1 : 0 < far) (h2 : far < 1000000000000000000000000000000) :
    m__law_take [.obj n, .int far] M = .ok (.val (.int (p % far))) (M.set n (.lst [.int (p / far)])) := by
  simp [m__law_take, h, fMod_i h1, fDiv_i h1 h2, ixD]
theorem takeP {n : Nat} {M : MH} (h : Pot n M) (far : Int) (h1 : 0 < far) (h2 : far < 1000000000000000000000000000000) :
    ∃ r M', m__law_take [.obj n, .int far] M = .ok (.val (.int r)) M' ∧ (0 ≤ r ∧ r < far) ∧ Pot n M' := by
  obtain ⟨p, hp, e⟩ := h
  refine ⟨p % far, M.set n (.lst [.int (p / far)]), t_take p far M n e h1 h2, ⟨Int.emod_nonneg _ (by omega), Int.emod_lt_of_pos _ h1⟩, p / far, Int.ediv_nonneg hp (by omega), ?_⟩
  rw [List.getElem?_set_self]
  exact (List.getElem?_eq_some_iff.mp e).1
theorem t_cell (ns : List Int) (k : Nat) (M : MH) : ∃ c, m__law_cell_at [scriptD ns, .int k] M = .ok (.val (.int c)) M := by
  unfold scriptD
  by_cases h : k < ns.length
  · exact ⟨ns[k], by simp [m__law_cell_at, h, atD_nat (ns.map D.int) k (by simpa using h)]⟩
  · exact ⟨0, by simp [m__law_cell_at, h]⟩
theorem t_pot (c : Int) (M : MH) : ∃ p, 0 ≤ p ∧ m__law_pot [.int c] M = .ok (.own (.lst [.int p])) M := by
  by_cases h : 1000000000000000000 ≤ c
  · refine ⟨c - 1000000000000000000, by omega, ?_⟩
    simp [m__law_pot, fPow_c, h]
  · obtain ⟨fl, e', m', h1, rfl, n, x, y, rfl, rfl, h2⟩ := (wp_loop (t := gNm 2) (b := l__law_pot_1)
      D.int (fun _ e m => ∃ (n : Int) (x y : Option SV), e = [some (.val (.int c)), some (.val (.int n)), x, y] ∧ m = M ∧ 0 ≤ n)
      (fun fl e m => fl = .nx ∧ ∃ (n : Int) (x y : Option SV), e = [some (.val (.int c)), some (.val (.int n)), x, y] ∧ m = M ∧ 0 ≤ n)
      (fun j rest e m => by
        rintro ⟨n, x, y, rfl, rfl, hn⟩
        have k1 := Int.emod_nonneg ((c % 2147483629 + 7919 * j + 1) * 48271) (show (2147483647 : Int) ≠ 0 by decide)
        have k2 := Int.emod_lt_of_pos ((c % 2147483629 + 7919 * j + 1) * 48271) (show (0 : Int) < 2147483647 by decide)
        have k3 := fMul_l (i := (c % 2147483629 + 7919 * j + 1) * 48271 % 2147483647) (j := (c % 2147483629 + 7919 * j + 1) * 48271 % 2147483647) (by omega)
        have k4 := Int.emod_nonneg ((c % 2147483629 + 7919 * j + 1) * 48271 % 2147483647 * ((c % 2147483629 + 7919 * j + 1) * 48271 % 2147483647) + 69621 * j + 7) (show (2147483587 : Int) ≠ 0 by decide)
        simp [l__law_pot_1, fMod_i, fMul_l (i := 7919), fMul_l (i := 69621), fMul_r (j := 48271), fMul_r (j := 2147483587), k3]
        omega)
      (fun e m h => ⟨rfl, h⟩)
      (rangeI 0 64) [some (.val (.int c)), some (.val (.int 0)), none, none] M ⟨0, none, none, rfl, rfl, by omega⟩).ex
    refine ⟨n, h2, ?_⟩
    simp [m__law_pot, fPow_c, h, rangeD_I, lI]
    rw [h1]
    simp
end L04
/-! PIEqR: data without dicts are equal to themselves. -/
namespace PI
open PySem
mutual
def D.plB : D → Bool
  | .non => true
  | .bl _ => true
  | .int _ => true
  | .str _ => true
  | .tup xs => plBL xs
  | .tupw xs => plBL xs
  | .lst xs => plBL xs
  | _ => false
def plBL : List D → Bool
  | [] => true
  | x :: xs => x.plB && plBL xs
end
mutual
theorem plB_dat : ∀ {d : D}, d.plB = true → ∃ p, dat d = some p ∧ p.plain = true ∧ p.depth = d.dp
  | .non, _ => ⟨_, rfl, rfl, rfl⟩
  | .bl _, _ => ⟨_, rfl, rfl, rfl⟩
  | .int _, _ => ⟨_, rfl, rfl, rfl⟩
  | .str _, _ => ⟨_, rfl, rfl, rfl⟩
  | .tup xs, h => by
    obtain ⟨ps, h1, h2, h3⟩ := plBL_dat (xs := xs) h
    exact ⟨.tuple ps, by simp only [dat, h1, Option.map_some], h2, by simp only [PyData.depth, D.dp, h3]⟩
  | .tupw xs, h => by
    obtain ⟨ps, h1, h2, h3⟩ := plBL_dat (xs := xs) h
    exact ⟨.tuple ps, by simp only [dat, h1, Option.map_some], h2, by simp only [PyData.depth, D.dp, h3]⟩
  | .lst xs, h => by
    obtain ⟨ps, h1, h2, h3⟩ := plBL_dat (xs := xs) h
    exact ⟨.list ps, by simp only [dat, h1, Option.map_some], h2, by simp only [PyData.depth, D.dp, h3]⟩
  | .dic _, h => by cases h
  | .ins _ _, h => by cases h
  | .exn _ _, h => by cases h
  | .obj _, h => by cases h
  | .fn _, h => by cases h
  | .cls _, h => by cases h
  | .ty _, h => by cases h
theorem plBL_dat : ∀ {xs : List D}, plBL xs = true → ∃ ps, datL xs = some ps ∧ PyData.plainAll ps = true ∧ PyData.depthAll ps = dpL xs
  | [], _ => ⟨[], rfl, rfl, rfl⟩
  | x :: xs, h => by
    simp only [plBL, Bool.and_eq_true] at h
    obtain ⟨p, a1, a2, a3⟩ := plB_dat h.1
    obtain ⟨ps, b1, b2, b3⟩ := plBL_dat h.2
    exact ⟨p :: ps, by simp only [datL, a1, b1, Option.bind_some, Option.map_some], by simp only [PyData.plainAll, a2, b2, Bool.and_self], by simp only [PyData.depthAll, dpL, a3, b3]⟩
end
theorem fEq_self {d : D} (h : d.plB = true) (hd : d.dp ≤ 60) : fEq d d = some true := by
  obtain ⟨p, a1, a2, a3⟩ := plB_dat h
  have gen : ((dat d).bind fun p => (dat d).bind fun q => if eqOk p q then some (PyData.eqv p q) else none) = some true := by
    rw [a1]
    simp only [Option.bind_some]
    rw [if_pos (by simp only [eqOk, a2, a3, Bool.true_and, decide_eq_true_eq]; omega)]
    rw [SeqAt.eqv_refl_plain p a2]
  cases d with
  | int i => simp [fEq]
  | str s => simp [fEq]
  | bl b => simp [fEq]
  | _ => exact gen
end PI
set_option maxHeartbeats 4000000
namespace L04
open PySem PI
noncomputable section
theorem all_c {α : Type} {P : α → Prop} {L : List α} (h : L.foldr (fun d p => P d ∧ p) True) : ∀ d ∈ L, P d := by
  induction L with
  | nil => intro d hd; cases hd
  | cons x L ih =>
    intro d hd
    rcases List.mem_cons.mp hd with rfl | hd
    · exact h.1
    · exact ih h.2 d hd
/-! exceptions as values -/
def exV (c : Nat) (fs : List (Nat × D)) : D := .exn (1000 + c) fs
def oneW : List (Nat × Tx) := [(1, [109, 97, 107, 101, 114]), (2, [121, 101, 97, 114]), (3, [115, 105, 122, 101]), (4, [98, 111, 116, 116, 108, 101]), (0, [98, 111, 116, 116, 108, 101, 115]), (5, [114, 111, 111, 109, 115]), (6, [104, 111, 108, 100]), (7, [109, 111, 110, 116, 104]), (8, [119, 104, 111]), (9, [115, 101, 116]), (15, [100, 101, 101, 100]), (16, [115, 112, 97, 110, 115]), (17, [115, 112, 97, 110]), (18, [114, 97, 116, 101]), (19, [119, 105, 115, 104, 101, 115]), (20, [110, 111, 116, 101, 115]), (21, [111, 114, 100, 101, 114]), (22, [108, 105, 115, 116]), (23, [108, 111, 115, 116]), (24, [104, 105, 110, 116, 115]), (25, [119, 97, 121]), (26, [108, 105, 110, 101]), (27, [110, 117, 109, 98, 101, 114]), (28, [112, 108, 97, 99, 101])]
theorem word_one (M : MH) : ∀ q ∈ oneW, m__law_word [exV q.1 []] M = .ok (.val (.str q.2)) M := by
  apply all_c
  unfold oneW
  simp only [List.foldr]
  repeat' apply And.intro
  all_goals first | trivial | kernel_rfl
def onesD : D := .lst (oneW.map fun q => exV q.1 [])
def wordsD : D := .lst (oneW.map fun q => .str q.2)
theorem ones_made (M : MH) : m__law_plain_ones [] M = .ok (.own (.lst (oneW.map fun q => exV q.1 []))) M := by kernel_rfl
theorem fams (e : PI.Env) (m : MH) : ∀ q ∈ oneW, fIsX2 mroT nX ksT [exV q.1 [], .ty "LookupError"] = some (.val (.bl false)) ∧ fIsX2 mroT nX ksT [exV q.1 [], .cls 31] = some (.val (.bl true)) := by
  apply all_c
  unfold oneW
  simp only [List.foldr]
  repeat' apply And.intro
  all_goals first | trivial | kernel_rfl
theorem now_ex (c : Nat) (fs : List (Nat × D)) : ∀ e m, (PV.v (exV c fs)).now e m = .ok (exV c fs) e m := fun _ _ => rfl
theorem t_raised (i : Int) (M : MH) : m__law_raised [.tup [.int i]] M = .ok (.val (.str [98, 111, 116, 116, 108, 101, 115])) M := by kernel_rfl
/-! fields -/
theorem mk2 (c a b : Nat) (x y : D) (M : MH) : mkE c [a, b] [x, y] M = .ok (.val (exV c [(a, x), (b, y)])) M := rfl
theorem mk3 (c a b d : Nat) (x y z : D) (M : MH) : mkE c [a, b, d] [x, y, z] M = .ok (.val (exV c [(a, x), (b, y), (d, z)])) M := rfl
theorem mk1 (c a : Nat) (x : D) (M : MH) : mkE c [a] [x] M = .ok (.val (exV c [(a, x)])) M := rfl
theorem fx0 {c i : Nat} (h : c < nX) (x : D) (fs : List (Nat × D)) : fXv nX i (exV c ((i, x) :: fs)) = some (.val x) := by
  unfold exV
  show (if 1000 ≤ 1000 + c ∧ 1000 + c - 1000 < nX then _ else none) = _
  rw [if_pos ⟨by omega, by omega⟩]
  simp
theorem fx1 {c i j : Nat} (h : c < nX) (hij : i ≠ j) (x y : D) (fs : List (Nat × D)) : fXv nX i (exV c ((j, y) :: (i, x) :: fs)) = some (.val x) := by
  unfold exV
  show (if 1000 ≤ 1000 + c ∧ 1000 + c - 1000 < nX then _ else none) = _
  rw [if_pos ⟨by omega, by omega⟩]
  have : (i == j) = false := beq_eq_false_iff_ne.mpr hij
  simp [List.lookup, this]
theorem fx2 {c i j k : Nat} (h : c < nX) (hij : i ≠ j) (hik : i ≠ k) (x y z : D) (fs : List (Nat × D)) : fXv nX i (exV c ((j, y) :: (k, z) :: (i, x) :: fs)) = some (.val x) := by
  unfold exV
  show (if 1000 ≤ 1000 + c ∧ 1000 + c - 1000 < nX then _ else none) = _
  rw [if_pos ⟨by omega, by omega⟩]
  have h1 : (i == j) = false := beq_eq_false_iff_ne.mpr hij
  have h2 : (i == k) = false := beq_eq_false_iff_ne.mpr hik
  simp [List.lookup, h1, h2]
theorem hw_full (fs : List (Nat × D)) (M : MH) : m__law_here_word [exV 10 fs] M = .ok (.val (.str [102, 117, 108, 108])) M := by kernel_rfl
theorem hw_gone (fs : List (Nat × D)) (M : MH) : m__law_here_word [exV 11 fs] M = .ok (.val (.str [103, 111, 110, 101])) M := by kernel_rfl
theorem hw_kept (fs : List (Nat × D)) (M : MH) : m__law_here_word [exV 29 fs] M = .ok (.val (.str [107, 101, 112, 116])) M := by kernel_rfl
theorem w_many (fs : List (Nat × D)) (M : MH) : m__law_word [exV 12 fs] M = .ok (.val (.str [109, 97, 110, 121])) M := by kernel_rfl
theorem w_crowded (fs : List (Nat × D)) (M : MH) : m__law_word [exV 13 fs] M = .ok (.val (.str [99, 114, 111, 119, 100, 101, 100])) M := by kernel_rfl
theorem w_text (fs : List (Nat × D)) (M : MH) : m__law_word [exV 14 fs] M = .ok (.val (.str [116, 101, 120, 116])) M := by kernel_rfl
theorem here_right (a b c : Int) (M : MH) : m__law_here_right [.int a, .int b, .int c] M = .ok (.val (.bl true)) M := by
  have md : fMod (.int b) (.int 1000) = some (.val (.int (b % 1000))) := fMod_i (by decide)
  have e0 := mk2 10 5 6 (.int a) (.int b) M
  have nk := now_ex
  generalize hdr : D.tup [.str [100, 114, 117, 110, 107], .int (b % 1000), .str [97, 121]] = dr
  generalize hbr : D.tup [.str [98, 114, 111, 107, 101, 110], .int c] = br
  generalize hma : D.tup [.int (a + 1), .int (a + 2 + c)] = ma
  have ndr : ∀ e m, (PV.v dr).now e m = .ok dr e m := by subst hdr; exact fun _ _ => rfl
  have nbr : ∀ e m, (PV.v br).now e m = .ok br e m := by subst hbr; exact fun _ _ => rfl
  have nma : ∀ e m, (PV.v ma).now e m = .ok ma e m := by subst hma; exact fun _ _ => rfl
  have e2 := mk2 11 7 8 (.int a) dr M
  have e3 := mk2 11 7 8 (.int a) br M
  have e4 := mk2 29 7 9 (.int a) ma M
  have e5 := mk2 29 7 9 (.int b) (.tup []) M
  have f0 := fx0 (c := 10) (i := 5) (by decide) (.int a) [(6, .int b)]
  have f1 := fx1 (c := 10) (i := 6) (j := 5) (by decide) (by decide) (.int b) (.int a) []
  have f2 := fx0 (c := 11) (i := 7) (by decide) (.int a) [(8, dr)]
  have f3 := fx1 (c := 11) (i := 8) (j := 7) (by decide) (by decide) dr (.int a) []
  have f4 := fx0 (c := 11) (i := 7) (by decide) (.int a) [(8, br)]
  have f5 := fx1 (c := 11) (i := 8) (j := 7) (by decide) (by decide) br (.int a) []
  have f6 := fx0 (c := 29) (i := 7) (by decide) (.int a) [(9, ma)]
  have f7 := fx1 (c := 29) (i := 9) (j := 7) (by decide) (by decide) ma (.int a) []
  have f8 := fx0 (c := 29) (i := 7) (by decide) (.int b) [(9, .tup [])]
  have f9 := fx1 (c := 29) (i := 9) (j := 7) (by decide) (by decide) (.tup []) (.int b) []
  have h0 := hw_full [(5, .int a), (6, .int b)] M
  have h2 := hw_gone [(7, .int a), (8, dr)] M
  have h3 := hw_gone [(7, .int a), (8, br)] M
  have h4 := hw_kept [(7, .int a), (9, ma)] M
  have h5 := hw_kept [(7, .int b), (9, .tup [])] M
  have n0 := nk 10 [(5, .int a), (6, .int b)]
  have n2 := nk 11 [(7, .int a), (8, dr)]
  have n3 := nk 11 [(7, .int a), (8, br)]
  have n4 := nk 29 [(7, .int a), (9, ma)]
  have n5 := nk 29 [(7, .int b), (9, .tup [])]
  generalize exV 10 [(5, .int a), (6, .int b)] = r0 at *
  generalize exV 11 [(7, .int a), (8, dr)] = r2 at *
  generalize exV 11 [(7, .int a), (8, br)] = r3 at *
  generalize exV 29 [(7, .int a), (9, ma)] = r4 at *
  generalize exV 29 [(7, .int b), (9, .tup [])] = r5 at *
  clear nk
  have pl : (D.lst [.tup [.int a, .int b], .tup [.int a, .int b], .tup [.int a, dr], .tup [.int a, br], .tup [.int a, ma], .tup [.int b, .tup []]]).plB = true := by
    subst hdr hbr hma; rfl
  have dp : (D.lst [.tup [.int a, .int b], .tup [.int a, .int b], .tup [.int a, dr], .tup [.int a, br], .tup [.int a, ma], .tup [.int b, .tup []]]).dp ≤ 60 := by
    subst hdr hbr hma
    simp [D.dp, dpL]
  have ee := fEq_self pl dp
  have wq : fEq (.lst [.str [102, 117, 108, 108], .str [102, 117, 108, 108], .str [103, 111, 110, 101], .str [103, 111, 110, 101], .str [107, 101, 112, 116], .str [107, 101, 112, 116]]) (.lst [.str [102, 117, 108, 108], .str [102, 117, 108, 108], .str [103, 111, 110, 101], .str [103, 111, 110, 101], .str [107, 101, 112, 116], .str [107, 101, 112, 116]]) = some true := fEq_self rfl (by decide)
  have a1 : fAdd (.lst [r0, r0, r2, r3]) (.lst [r4, r5]) = some (.own (.lst [r0, r0, r2, r3, r4, r5])) := rfl
  have a2 : ∀ x y z u v w : D, fAdd (.lst [x, y, z]) (.lst [u, v, w]) = some (.own (.lst [x, y, z, u, v, w])) := fun _ _ _ _ _ _ => rfl
  have i0 : fIx (.lst [r0, r0, r2, r3, r4, r5]) (.int 0) = some (.val r0) := rfl
  have i1 : fIx (.lst [r0, r0, r2, r3, r4, r5]) (.int 1) = some (.val r0) := rfl
  have i2 : fIx (.lst [r0, r0, r2, r3, r4, r5]) (.int 2) = some (.val r2) := rfl
  have i3 : fIx (.lst [r0, r0, r2, r3, r4, r5]) (.int 3) = some (.val r3) := rfl
  have i4 : fIx (.lst [r0, r0, r2, r3, r4, r5]) (.int 4) = some (.val r4) := rfl
  have i5 : fIx (.lst [r0, r0, r2, r3, r4, r5]) (.int 5) = some (.val r5) := rfl
  have lc := ev_lcA (v := 7) (e := [some (.val (.int a)), some (.val (.int b)), some (.val (.int c)), some (.val dr), some (.val br), some (.val ma), some (.val (.lst [r0, r0, r2, r3, r4, r5])), none, none]) (m := M) (it := itSeq (eLoc 6)) (x := eUse (eCallD m__law_here_word [] (eCons (eUse (eLoc 7)) eNil))) (L := [(r0, [102, 117, 108, 108]), (r0, [102, 117, 108, 108]), (r2, [103, 111, 110, 101]), (r3, [103, 111, 110, 101]), (r4, [107, 101, 112, 116]), (r5, [107, 101, 112, 116])]) (fun q : D × Tx => q.1) (fun q => .str q.2) (by simp) (by simp [notOwn]) (by
    apply all_c
    simp only [List.foldr]
    refine ⟨?_, ?_, ?_, ?_, ?_, ?_, trivial⟩
    · simp [n0, h0]
    · simp [n0, h0]
    · simp [n2, h2]
    · simp [n3, h3]
    · simp [n4, h4]
    · simp [n5, h5])
  simp only [List.map_cons, List.map_nil] at lc
  clear dp pl
  simp [m__law_here_right, md, hdr, hbr, hma, ndr, nbr, nma, e0, e2, e3, e4, e5, pickL, a1, n0, n2, n3, n4, n5, lc, wq, i0, i1, i2, i3, i4, i5, f0, f1, f2, f3, f4, f5, f6, f7, f8, f9, a2, ee]
theorem fields_right (a b c : Int) (M : MH) : m__law_fields_right [.int a, .int b, .int c] M = .ok (.val (.bl true)) M := by
  have nk := now_ex
  have z0 := mk2 12 0 1 (.int a) (.int b) M
  have z1 := mk2 12 0 1 (.int b) (.int a) M
  have z2 := mk3 13 2 3 0 (.int a) (.int b) (.int c) M
  have z3 := mk3 13 2 3 0 (.int 3) (.int b) (.int a) M
  have z4 := mk1 14 4 (.int 0) M
  have z5 := mk1 14 4 (.int a) M
  have z6 := mk1 14 4 (.int b) M
  have f00 := fx0 (c := 12) (i := 0) (by decide) (.int a) [(1, .int b)]
  have f01 := fx1 (c := 12) (i := 1) (j := 0) (by decide) (by decide) (.int b) (.int a) []
  have f10 := fx0 (c := 12) (i := 0) (by decide) (.int b) [(1, .int a)]
  have f11 := fx1 (c := 12) (i := 1) (j := 0) (by decide) (by decide) (.int a) (.int b) []
  have f20 := fx0 (c := 13) (i := 2) (by decide) (.int a) [(3, .int b), (0, .int c)]
  have f21 := fx1 (c := 13) (i := 3) (j := 2) (by decide) (by decide) (.int b) (.int a) [(0, .int c)]
  have f22 := fx2 (c := 13) (i := 0) (j := 2) (k := 3) (by decide) (by decide) (by decide) (.int c) (.int a) (.int b) []
  have f30 := fx0 (c := 13) (i := 2) (by decide) (.int 3) [(3, .int b), (0, .int a)]
  have f31 := fx1 (c := 13) (i := 3) (j := 2) (by decide) (by decide) (.int b) (.int 3) [(0, .int a)]
  have f32 := fx2 (c := 13) (i := 0) (j := 2) (k := 3) (by decide) (by decide) (by decide) (.int a) (.int 3) (.int b) []
  have f40 := fx0 (c := 14) (i := 4) (by decide) (.int 0) []
  have f50 := fx0 (c := 14) (i := 4) (by decide) (.int a) []
  have f60 := fx0 (c := 14) (i := 4) (by decide) (.int b) []
  have w0 := w_many [(0, .int a), (1, .int b)] M
  have w1 := w_many [(0, .int b), (1, .int a)] M
  have w2 := w_crowded [(2, .int a), (3, .int b), (0, .int c)] M
  have w3 := w_crowded [(2, .int 3), (3, .int b), (0, .int a)] M
  have w4 := w_text [(4, .int 0)] M
  have w5 := w_text [(4, .int a)] M
  have w6 := w_text [(4, .int b)] M
  have n0 := nk 12 [(0, .int a), (1, .int b)]
  have n1 := nk 12 [(0, .int b), (1, .int a)]
  have n2 := nk 13 [(2, .int a), (3, .int b), (0, .int c)]
  have n3 := nk 13 [(2, .int 3), (3, .int b), (0, .int a)]
  have n4 := nk 14 [(4, .int 0)]
  have n5 := nk 14 [(4, .int a)]
  have n6 := nk 14 [(4, .int b)]
  generalize exV 12 [(0, .int a), (1, .int b)] = r0 at *
  generalize exV 12 [(0, .int b), (1, .int a)] = r1 at *
  generalize exV 13 [(2, .int a), (3, .int b), (0, .int c)] = r2 at *
  generalize exV 13 [(2, .int 3), (3, .int b), (0, .int a)] = r3 at *
  generalize exV 14 [(4, .int 0)] = r4 at *
  generalize exV 14 [(4, .int a)] = r5 at *
  generalize exV 14 [(4, .int b)] = r6 at *
  clear nk
  have q1 : fEq (.lst [.tup [.int a, .int b], .tup [.int b, .int a]]) (.lst [.tup [.int a, .int b], .tup [.int b, .int a]]) = some true := fEq_self rfl (by simp [D.dp, dpL])
  have q2 : fEq (.lst [.tup [.int a, .int b, .int c], .tup [.int 3, .int b, .int a]]) (.lst [.tup [.int a, .int b, .int c], .tup [.int 3, .int b, .int a]]) = some true := fEq_self rfl (by simp [D.dp, dpL])
  have q3 : fEq (.lst [.int 0, .int a, .int b]) (.lst [.int 0, .int a, .int b]) = some true := fEq_self rfl (by simp [D.dp, dpL])
  have q4 : fEq (.lst [.str [109, 97, 110, 121], .str [109, 97, 110, 121], .str [99, 114, 111, 119, 100, 101, 100], .str [99, 114, 111, 119, 100, 101, 100], .str [116, 101, 120, 116], .str [116, 101, 120, 116], .str [116, 101, 120, 116]]) (.lst [.str [109, 97, 110, 121], .str [109, 97, 110, 121], .str [99, 114, 111, 119, 100, 101, 100], .str [99, 114, 111, 119, 100, 101, 100], .str [116, 101, 120, 116], .str [116, 101, 120, 116], .str [116, 101, 120, 116]]) = some true := fEq_self rfl (by decide)
  have ap : mAppend (.lst [r0, r1, r2]) [r3] = some (.non, .lst [r0, r1, r2, r3]) := rfl
  have c1 : cutD [r0, r1, r2, r3] none (some 2) = [r0, r1] := rfl
  have c2 : cutD [r0, r1, r2, r3] (some 2) none = [r2, r3] := rfl
  have a1 : fAdd (.lst [r0, r1, r2, r3]) (.lst [r4, r5, r6]) = some (.own (.lst [r0, r1, r2, r3, r4, r5, r6])) := rfl
  have m1 : fMulX (.lst [.str [109, 97, 110, 121]]) (.int 2) = some (.own (.lst [.str [109, 97, 110, 121], .str [109, 97, 110, 121]])) := by kernel_rfl
  have m2 : fMulX (.lst [.str [99, 114, 111, 119, 100, 101, 100]]) (.int 2) = some (.own (.lst [.str [99, 114, 111, 119, 100, 101, 100], .str [99, 114, 111, 119, 100, 101, 100]])) := by kernel_rfl
  have m3 : fMulX (.lst [.str [116, 101, 120, 116]]) (.int 3) = some (.own (.lst [.str [116, 101, 120, 116], .str [116, 101, 120, 116], .str [116, 101, 120, 116]])) := by kernel_rfl
  have a2 : ∀ x y z u : D, fAdd (.lst [x, y]) (.lst [z, u]) = some (.own (.lst [x, y, z, u])) := fun _ _ _ _ => rfl
  have a3 : ∀ x y z u v w t : D, fAdd (.lst [x, y, z, u]) (.lst [v, w, t]) = some (.own (.lst [x, y, z, u, v, w, t])) := fun _ _ _ _ _ _ _ => rfl
  have lc1 := ev_lcA (v := 4) (e := [some (.val (.int a)), some (.val (.int b)), some (.val (.int c)), some (.own (.lst [r0, r1, r2, r3])), none, none, none]) (m := M) (it := itSeq (eCut (pLoc 3) eNoPart (ePart (pOf (eCon (.int 2)))))) (x := eUse (eTup (eCons (eUse (PI.e1 (fXv nX 0) (pLoc 4))) (eCons (eUse (PI.e1 (fXv nX 1) (pLoc 4))) eNil)))) (L := [(r0, D.tup [.int a, .int b]), (r1, .tup [.int b, .int a])]) (fun q : D × D => q.1) (fun q => q.2) (by simp [c1]) (by simp [notOwn]) (by
    apply all_c
    simp only [List.foldr]
    refine ⟨?_, ?_, trivial⟩
    · simp [n0, f00, f01]
    · simp [n1, f10, f11])
  have lc2 := ev_lcA (v := 4) (e := [some (.val (.int a)), some (.val (.int b)), some (.val (.int c)), some (.own (.lst [r0, r1, r2, r3])), none, none, none]) (m := M) (it := itSeq (eCut (pLoc 3) (ePart (pOf (eCon (.int 2)))) eNoPart)) (x := eUse (eTup (eCons (eUse (PI.e1 (fXv nX 2) (pLoc 4))) (eCons (eUse (PI.e1 (fXv nX 3) (pLoc 4))) (eCons (eUse (PI.e1 (fXv nX 0) (pLoc 4))) eNil))))) (L := [(r2, D.tup [.int a, .int b, .int c]), (r3, .tup [.int 3, .int b, .int a])]) (fun q : D × D => q.1) (fun q => q.2) (by simp [c2]) (by simp [notOwn]) (by
    apply all_c
    simp only [List.foldr]
    refine ⟨?_, ?_, trivial⟩
    · simp [n2, f20, f21, f22]
    · simp [n3, f30, f31, f32])
  have lc3 := ev_lcA (v := 4) (e := [some (.val (.int a)), some (.val (.int b)), some (.val (.int c)), some (.own (.lst [r0, r1, r2, r3])), none, some (.val (.lst [r4, r5, r6])), none]) (m := M) (it := itSeq (PI.e2 fAdd (pLoc 3) (pLoc 5))) (x := eUse (eCallD m__law_word [] (eCons (eUse (eLoc 4)) eNil))) (L := [(r0, [109, 97, 110, 121]), (r1, [109, 97, 110, 121]), (r2, [99, 114, 111, 119, 100, 101, 100]), (r3, [99, 114, 111, 119, 100, 101, 100]), (r4, [116, 101, 120, 116]), (r5, [116, 101, 120, 116]), (r6, [116, 101, 120, 116])]) (fun q : D × Tx => q.1) (fun q => .str q.2) (by simp [a1]) (by simp [notOwn]) (by
    apply all_c
    simp only [List.foldr]
    refine ⟨?_, ?_, ?_, ?_, ?_, ?_, ?_, trivial⟩
    · simp [n0, w0]
    · simp [n1, w1]
    · simp [n2, w2]
    · simp [n3, w3]
    · simp [n4, w4]
    · simp [n5, w5]
    · simp [n6, w6])
  have lc4 := fun s6 => ev_lcA (v := 4) (e := [some (.val (.int a)), some (.val (.int b)), some (.val (.int c)), some (.own (.lst [r0, r1, r2, r3])), none, some (.val (.lst [r4, r5, r6])), s6]) (m := M) (it := itSeq (eLoc 5)) (x := eUse (PI.e1 (fXv nX 4) (pLoc 4))) (L := [(r4, D.int 0), (r5, .int a), (r6, .int b)]) (fun q : D × D => q.1) (fun q => q.2) (by simp) (by simp [notOwn]) (by
    apply all_c
    simp only [List.foldr]
    refine ⟨?_, ?_, ?_, trivial⟩
    · simp [n4, f40]
    · simp [n5, f50]
    · simp [n6, f60])
  simp only [List.map_cons, List.map_nil] at lc1 lc2 lc3 lc4
  simp [m__law_fields_right, z0, z1, z2, z3, z4, z5, z6, pickL, ap, n0, n1, n2, n3, n4, n5, n6, lc1, q1, lc2, q2, lc3, lc4, q3, m1, m2, m3, a2, a3, q4]
def txA : Tx := [109, 97, 107, 101, 114, 32, 121, 101, 97, 114, 32, 115, 105, 122, 101, 32, 98, 111, 116, 116, 108, 101, 32, 98, 111, 116, 116, 108, 101, 115, 32, 114, 111, 111, 109, 115, 32, 104, 111, 108, 100, 32, 109, 111, 110, 116, 104, 32, 119, 104, 111, 32, 115, 101, 116, 32, 100, 101, 101, 100, 32, 115, 112, 97, 110, 115, 32, 115, 112, 97, 110, 32, 114, 97, 116, 101, 32, 119, 105, 115, 104, 101, 115, 32, 110, 111, 116, 101, 115, 32, 111, 114, 100, 101, 114, 32, 108, 105, 115, 116]
def txB : Tx := [32, 108, 111, 115, 116, 32, 104, 105, 110, 116, 115, 32, 119, 97, 121, 32, 108, 105, 110, 101, 32, 110, 117, 109, 98, 101, 114, 32, 112, 108, 97, 99, 101]
def txAB : Tx := [109, 97, 107, 101, 114, 32, 121, 101, 97, 114, 32, 115, 105, 122, 101, 32, 98, 111, 116, 116, 108, 101, 32, 98, 111, 116, 116, 108, 101, 115, 32, 114, 111, 111, 109, 115, 32, 104, 111, 108, 100, 32, 109, 111, 110, 116, 104, 32, 119, 104, 111, 32, 115, 101, 116, 32, 100, 101, 101, 100, 32, 115, 112, 97, 110, 115, 32, 115, 112, 97, 110, 32, 114, 97, 116, 101, 32, 119, 105, 115, 104, 101, 115, 32, 110, 111, 116, 101, 115, 32, 111, 114, 100, 101, 114, 32, 108, 105, 115, 116, 32, 108, 111, 115, 116, 32, 104, 105, 110, 116, 115, 32, 119, 97, 121, 32, 108, 105, 110, 101, 32, 110, 117, 109, 98, 101, 114, 32, 112, 108, 97, 99, 101]
theorem ab_add : fAdd (.str txA) (.str txB) = some (.val (.str txAB)) := by kernel_rfl
theorem ab_split : fSplit (.str txAB) [.str [32]] = some (.own (.lst (oneW.map fun q => .str q.2))) := by kernel_rfl
theorem cell_ok (ns : List Int) (k : Nat) (M : MH) (x3 x4 x5 x6 x7 x8 : Option SV) (h8 : notOwn x8 = true) : ∃ (M' : MH) (y3 y4 y5 y6 y7 : Option SV),
    l_law_1 [some (.val (scriptD ns)), some (.val wordsD), some (.val (.int k)), x3, x4, x5, x6, x7, x8] M = .ok .nx [some (.val (scriptD ns)), some (.val wordsD), some (.val (.int k)), y3, y4, y5, y6, y7, x8] M' := by
  obtain ⟨c0, hc⟩ := t_cell ns k M
  obtain ⟨z, hz, hpt⟩ := t_pot c0 M
  have p0 : Pot M.length (M ++ [MO.lst [.int z]]) := ⟨z, hz, by simp⟩
  obtain ⟨a, M1, a1, a2, p1⟩ := takeP p0 99 (by decide) (by decide)
  obtain ⟨b, M2, b1, b2, p2⟩ := takeP p1 100000000000000000000 (by decide) (by decide)
  obtain ⟨c, M3, c1, c2, p3⟩ := takeP p2 9 (by decide) (by decide)
  have pw : fPow (.int 10) (.int 20) = some (.val (.int 100000000000000000000)) := by kernel_rfl
  have om := ones_made M3
  have w1 := word_one M3
  have nd : ∀ e m, (PV.v onesD).now e m = .ok onesD e m := fun _ _ => rfl
  have nw : ∀ e m, (PV.v wordsD).now e m = .ok wordsD e m := fun _ _ => rfl
  have ww : fEq wordsD wordsD = some true := fEq_self (by decide +kernel) (by decide +kernel)
  have hr := here_right a b c M3
  have fr := fields_right a b c M3
  have tr := t_raised a M3
  have lc1 := ev_lcA (v := 8) (e := [some (.val (scriptD ns)), some (.val wordsD), some (.val (.int k)), some (.val (.obj M.length)), some (.val (.int a)), some (.val (.int b)), some (.val (.int c)), some (.val onesD), x8]) (m := M3) (it := itSeq (eLoc 7)) (x := eUse (eCallD m__law_word [] (eCons (eUse (eLoc 8)) eNil))) (L := oneW) (fun q => exV q.1 []) (fun q => .str q.2) (by
      unfold onesD
      simp) (by simpa using h8) (fun q hq => by
      have := w1 q hq
      have nq := now_ex q.1 []
      simp [nq, this])
  have lc1 : eLc (gNm 8) (itSeq (eLoc 7)) tYes (eUse (eCallD m__law_word [] (eCons (eUse (eLoc 8)) eNil))) [8] [some (.val (scriptD ns)), some (.val wordsD), some (.val (.int k)), some (.val (.obj M.length)), some (.val (.int a)), some (.val (.int b)), some (.val (.int c)), some (.val onesD), x8] M3 = .ok (.own (.lst (oneW.map fun q => .str q.2))) [some (.val (scriptD ns)), some (.val wordsD), some (.val (.int k)), some (.val (.obj M.length)), some (.val (.int a)), some (.val (.int b)), some (.val (.int c)), some (.val onesD), x8] M3 := lc1
  have lc2 := ev_lc1 (v := 8) (e := [some (.val (scriptD ns)), some (.val wordsD), some (.val (.int k)), some (.val (.obj M.length)), some (.val (.int a)), some (.val (.int b)), some (.val (.int c)), some (.val onesD), x8]) (m := M3) (it := itSeq (eLoc 7)) (c := PI.tOr (tTruN (pOf (eB (fIsX2 mroT nX ksT) (eCons (pLoc 8) (eCons (pOf (eCon (.ty "LookupError"))) eNil))))) (PI.tNot (tTruN (pOf (eB (fIsX2 mroT nX ksT) (eCons (pLoc 8) (eCons (pOf (eCon (.cls 31))) eNil))))))) (x := eUse (eCon (.int 1))) (L := oneW) (fun q => exV q.1 []) (fun _ => false) (fun _ => .int 1) (by
      unfold onesD
      simp) (by simpa using h8) (fun q hq => by
      obtain ⟨f1, f2⟩ := fams [] [] q hq
      have nq := now_ex q.1 []
      simp [nq, f1, f2]) (fun q hq hf => by cases hf)
  have ef : (oneW.filter fun _ => false) = [] := List.filter_eq_nil_iff.mpr fun _ _ => by simp
  rw [ef] at lc2
  have oD : D.lst (oneW.map fun q => exV q.1 []) = onesD := rfl
  have wD : D.lst (oneW.map fun q => .str q.2) = wordsD := rfl
  have sO : (MO.lst (oneW.map fun q => exV q.1 [])).snap = onesD := rfl
  have sW : (MO.lst (oneW.map fun q => .str q.2)).snap = wordsD := rfl
  have en : fEq (.lst []) (.lst []) = some true := by kernel_rfl
  refine ⟨M3, some (.val (.obj M.length)), some (.val (.int a)), some (.val (.int b)), some (.val (.int c)), some (.val onesD), ?_⟩
  generalize hO : MO.lst (oneW.map fun q => exV q.1 []) = OO at *
  generalize hW : MO.lst (oneW.map fun q => D.str q.2) = WW at *
  generalize onesD = DO at *
  generalize wordsD = DW at *
  simp [l_law_1, hc, hpt, a1, pw, b1, c1, om, sO, sW, nd, nw, lc1, ww, hr, lc2, en, fr, tr]
theorem law_holds (ns : List Int) (hns : ns.length ≤ 63) : ∃ M, m_law [scriptD ns] [] = .ok (.val (.bl true)) M := by
  obtain ⟨fl, e', m', h1, rfl, h2⟩ := (wp_loop (t := gNm 2) (b := l_law_1) (fun k : Nat => .int (k : Int)) (fun rest e m => ∃ x2 x3 x4 x5 x6 x7 x8, e = [some (.val (scriptD ns)), some (.val wordsD), x2, x3, x4, x5, x6, x7, x8] ∧ notOwn x8 = true)
    (fun fl e m => fl = .nx ∧ True)
    (fun k rest e m => by
      rintro ⟨x2, x3, x4, x5, x6, x7, x8, rfl, h8⟩
      obtain ⟨N, y3, y4, y5, y6, y7, g⟩ := cell_ok ns k m x3 x4 x5 x6 x7 x8 h8
      generalize hK : loopI _ _ = K
      simp [g]
      subst hK
      exact ⟨_, _, _, _, _, _, _, rfl, h8⟩)
    (fun e m h => ⟨rfl, trivial⟩) (List.range (max 1 (min ns.length 3))) [some (.val (scriptD ns)), some (.val wordsD), none, none, none, none, none, none, none] [] ⟨_, _, _, _, _, _, _, rfl, rfl⟩).ex
  refine ⟨m', ?_⟩
  have hl : fLen [scriptD ns] = some (.val (.int ns.length)) := by simp [scriptD]
  have hn : (PV.v (scriptD ns)).now = fun e m => Res.ok (scriptD ns) e m := rfl
  have hc : (-100000 : Int) ≤ max 1 (min (ns.length : Int) 3) ∧ max 1 (min (ns.length : Int) 3) ≤ 100000 := by omega
  have hr : rangeD 0 (max 1 (min (ns.length : Int) 3)) = (List.range (max 1 (min ns.length 3))).map fun k : Nat => .int (k : Int) := by
    unfold rangeD
    rw [show (max 1 (min (ns.length : Int) 3) - 0).toNat = max 1 (min ns.length 3) by omega]
    apply List.map_congr_left
    intro k _
    simp
  have ad := ab_add
  have sp := ab_split
  unfold txA txB at ad
  have sW : (MO.lst (oneW.map fun q => .str q.2)).snap = wordsD := rfl
  generalize hW : MO.lst (oneW.map fun q => D.str q.2) = WW at *
  generalize txAB = AB at *
  generalize wordsD = DW at *
  simp [m_law, ad, sp, sW, hl, hn, hc, hr]
  rw [h1]
  simp
end
end L04
set_option maxHeartbeats 0
open PySem PySem.W PySem.Calls PyProof.Rows
theorem PySem.Challenge.cw_dimcellar_k04_errors_of_two_families_holds : PySem.Challenge.rw_dimcellar_k04_errors_of_two_families.Holds := by
  w_on; o_law
  refine HandSHeadRun.head_any (r := L04.rowL) (q := view L04.rowL.prog [62]) (H := L04.hk) (ob := L04.obL) (M := 30000) (loose := L04.nms) (d := HandSHeadRun.topDef L04.rowL.prog 62) (kwd := []) L04.obL_eq
    L04.hd_e L04.hd_f L04.runL L04.hd_d L04.hd_p L04.hd_k L04.hd_w L04.hd_s L04.hd_o L04.hd_b ?hw ?hc
  case hw => w_witness2
  case hc =>
    refine PI.walkI (l := PySem.Challenge.rw_dimcellar_k04_errors_of_two_families) (n := 63) (k := 6) (x := "_law_script") (sem := L04.m_law) rfl (by decide) (by kernel_rfl) ⟨⟨rfl, by decide, by decide⟩, rfl⟩ ?F L04.law_holds
    intro w mg fa h Y Gn hmg0
    obtain ⟨K, KX, c⟩ := Y
    have hmg : mg ("law" : PySem.Str) = some (.ref fa) := by
      rw [← L04.hd_n]
      exact hmg0
    obtain ⟨fd, hb, hF⟩ := L04.facts (P := L04.rowL.prog) (w := w) KX Gn hmg c
    exact ⟨L04.gOf K, fd, KX, hb, hF⟩
