import PyProof.Rows.All
import Wide.All
import OpenK.AllK
import Wide.FinOn
import PyProof.ReprReads
import KE.SortData
import KE.DataMinMax
import KE.DataEq
import KE.DataFind
import KE.DatumOrd
import HandS.Codes
import PyProof.ReprLen
import HandS.ForMost
import HandS.Exc
import HandS.ExcCtx
import HandS.HotCalls
import HandS.ExcOwn
import HandS.TryOnly
import HandS.Defaults
import HandS.Wide
import HandS.Text
import HandS.Dict
import HandS.TupAny
import HandS.IsInst
import PyProof.ReprRoads
import HandS.Set
import HandS.ReCall
import HandS.More
import HandS.Strs
import HandS.Iter
import HandS.MakeKw
import HandS.SetFor
import HandS.SetKeys
import KE.GoesEnum
import HandS.Zip
import HandS.SortKw
import HandS.Style
import PyProof.SumAny
import KE.KExcIs
import HandS.ExcIs
import PyProof.ExcBaseAll.ValueError
import HandS.TupMul
import PyProof.ListRange
import HandS.Conv
import HandS.ExcField
import HandS.ExcInit
import HandS.ExcInitHot
import PyProof.MinMaxWalk
import PyProof.WalkInts
import HandS.ListItems
import KE.KDictList
import KE.KDictCopyH
import HandS.Ends
import HandS.HeadEnd
import HandS.HeadHook2
import HandS.DictComp
import KE.SortKeyHeap
import HandS.Keys
import HandS.OwnEq
import HandS.HeadHook3
import PyProof.NeKinds
import KE.KExcInit
import PyProof.ExcBaseAll.LookupError
import HandS.FStr
import HandS.Head0
import HandS.Head1
import HandS.Head2
import HandS.HeadHook1
import PySem.Challenge.RW_dimcellar_k73_lists_refused
set_option Elab.async false
set_option linter.all false
set_option maxRecDepth 100000
/-! PICore: values as trees, the state of my own evaluator, its combinators. No program in sight, no heap of the model. -/
namespace PI
open PySem
/-- data as a tree. tupw: a tuple of which less is known (pairs of enumerate, zip, items; keys). obj: the n-th shared changeable object; fn, cls: the program's own defs and classes by numbers -/
inductive D where
  | non | bl (b : Bool) | int (i : Int) | str (cs : List Nat)
  | tup (xs : List D) | tupw (xs : List D) | lst (xs : List D) | dic (kvs : List (D × D))
  | ins (c : Nat) (fs : List (Nat × D))
  | exn (c : Nat) (fs : List (Nat × D))
  | obj (n : Nat) | fn (f : Nat) | cls (c : Nat) | ty (n : String)
  deriving Inhabited
/-- a changeable object's content -/
inductive MO where
  | lst (xs : List D) | dic (kvs : List (D × D)) | ins (c : Nat) (fs : List (Nat × D))
  deriving Inhabited
def MO.snap : MO → D
  | .lst xs => .lst xs
  | .dic kvs => .dic kvs
  | .ins c fs => .ins c fs
/-- what an expression gives: a value, or a new object that nobody else holds -/
inductive SV where
  | val (d : D) | own (m : MO)
  deriving Inhabited
def SV.d : SV → D
  | .val d => d
  | .own m => m.snap
abbrev Env := List (Option SV)
abbrev MH := List MO
/-- an exception: its class, its fields -/
structure Xn where
  c : Nat
  fs : List (Nat × D)
inductive Res (α : Type) where
  | ok (a : α) (e : Env) (m : MH) | err (x : Xn) (e : Env) (m : MH) | stuck
abbrev EM (α : Type) := Env → MH → Res α
/-- what a def gives -/
inductive FR where
  | ok (v : SV) (m : MH) | err (x : Xn) (m : MH) | stuck
abbrev FT := List D → MH → FR
def EM.pure {α : Type} (a : α) : EM α := fun e m => .ok a e m
def Res.bind {α β : Type} : Res α → (α → EM β) → Res β
  | .ok a e m, f => f a e m
  | .err x e m, _ => .err x e m
  | .stuck, _ => .stuck
def EM.bind {α β : Type} (x : EM α) (f : α → EM β) : EM β := fun e m => (x e m).bind f
def EM.lift {α : Type} : Option α → EM α
  | some a => EM.pure a
  | none => fun _ _ => .stuck
@[simp] theorem pure_ap {α : Type} (a : α) (e : Env) (m : MH) : EM.pure a e m = .ok a e m := rfl
@[simp] theorem bind_ap {α β : Type} (x : EM α) (f : α → EM β) (e : Env) (m : MH) : EM.bind x f e m = (x e m).bind f := rfl
@[simp] theorem bind_ok {α β : Type} (a : α) (e : Env) (m : MH) (f : α → EM β) : (Res.ok a e m).bind f = f a e m := rfl
@[simp] theorem bind_err {α β : Type} (x : Xn) (e : Env) (m : MH) (f : α → EM β) : (Res.err x e m : Res α).bind f = .err x e m := rfl
@[simp] theorem bind_stuck {α β : Type} (f : α → EM β) : (Res.stuck : Res α).bind f = .stuck := rfl
@[simp] theorem lift_some {α : Type} (a : α) (e : Env) (m : MH) : EM.lift (some a) e m = .ok a e m := rfl
@[simp] theorem lift_none {α : Type} (e : Env) (m : MH) : (EM.lift (none : Option α)) e m = .stuck := rfl
/-! ### names and constants -/
def setS (e : Env) (i : Nat) (s : SV) : Env := e.set i (some s)
/-- a name, read as a value that is kept: an object of one's own becomes frozen -/
def eLoc (i : Nat) : EM SV := fun e m => match e.getD i none with
  | some (.val d) => .ok (.val d) e m
  | some (.own o) => .ok (.val o.snap) (setS e i (.val o.snap)) m
  | none => .stuck
/-- a name that is moved out (return x) -/
def eMov (i : Nat) : EM SV := fun e m => match e.getD i none with
  | some s => .ok s e m
  | none => .stuck
def eCon (d : D) : EM SV := EM.pure (.val d)
/-- an operand: a value, or the slot in which an object of one's own stands -/
inductive PV where
  | v (d : D) | sl (i : Nat)
def pLoc (i : Nat) : EM PV := fun e m => match e.getD i none with
  | some (.val d) => .ok (.v d) e m
  | some (.own _) => .ok (.sl i) e m
  | none => .stuck
def pOf (x : EM SV) : EM PV := EM.bind x fun s => EM.pure (.v s.d)
/-- what an operand holds now -/
def PV.now (p : PV) : EM D := fun e m => match p with
  | .v (.obj n) => match m[n]? with
    | some o => .ok o.snap e m
    | none => .stuck
  | .v d => .ok d e m
  | .sl i => match e.getD i none with
    | some s => .ok s.d e m
    | none => .stuck
/-- kept: frozen -/
def eUse (x : EM SV) : EM D := EM.bind x fun s => EM.pure s.d
/-- operators by values -/
def e1 (f : D → Option SV) (a : EM PV) : EM SV := EM.bind a fun x => EM.bind x.now fun x => EM.lift (f x)
def e2 (f : D → D → Option SV) (a b : EM PV) : EM SV := EM.bind a fun x => EM.bind b fun y => EM.bind x.now fun x => EM.bind y.now fun y => EM.lift (f x y)
/-! ### lists of arguments -/
def eNil {α : Type} : EM (List α) := EM.pure []
def eCons {α : Type} (a : EM α) (r : EM (List α)) : EM (List α) := EM.bind a fun x => EM.bind r fun xs => EM.pure (x :: xs)
def eTup (es : EM (List D)) : EM SV := EM.bind es fun ds => if ds.length ≤ 1000 then EM.pure (.val (.tup ds)) else fun _ _ => .stuck
def eTupW (es : EM (List D)) : EM SV := EM.bind es fun ds => if ds.length ≤ 1000 then EM.pure (.val (.tupw ds)) else fun _ _ => .stuck
def eLst (es : EM (List D)) : EM SV := EM.bind es fun ds => if ds.length ≤ 1000 then EM.pure (.own (.lst ds)) else fun _ _ => .stuck
/-! ### calls -/
def FR.to (e : Env) : FR → Res SV
  | .ok v m => .ok v e m
  | .err x m => .err x e m
  | .stuck => .stuck
/-! ### tests -/
def D.isNon : D → Bool
  | .non => true
  | _ => false
def tIsN (a : EM PV) : EM Bool := EM.bind a fun p => EM.bind p.now fun d => EM.pure d.isNon
def tIsNN (a : EM PV) : EM Bool := EM.bind a fun p => EM.bind p.now fun d => EM.pure (!d.isNon)
def truthy : D → Option Bool
  | .non => some false
  | .bl b => some b
  | .int i => some (i != 0)
  | .str cs => some (cs.length != 0)
  | .tup xs => some (!xs.isEmpty)
  | .tupw xs => some (!xs.isEmpty)
  | .lst xs => some (!xs.isEmpty)
  | .dic kvs => some (!kvs.isEmpty)
  | _ => none
/-- the truth of a value (no dict) -/
def truthyN (d : D) : Option Bool := match d with
  | .dic _ => none
  | d => truthy d
def tTruN (a : EM PV) : EM Bool := EM.bind a fun x => EM.bind x.now fun x => EM.lift (truthyN x)
def tAnd (a b : EM Bool) : EM Bool := EM.bind a fun x => if x then b else EM.pure false
def tOr (a b : EM Bool) : EM Bool := EM.bind a fun x => if x then EM.pure true else b
def tNot (a : EM Bool) : EM Bool := EM.bind a fun x => EM.pure (!x)
/-- a test's answer as a value -/
def eBool (a : EM Bool) : EM SV := EM.bind a fun x => EM.pure (.val (.bl x))
def eIte (c : EM Bool) (a b : EM SV) : EM SV := EM.bind c fun x => if x then a else b
def t2 (f : D → D → Option Bool) (a b : EM PV) : EM Bool := EM.bind a fun x => EM.bind b fun y => EM.bind x.now fun x => EM.bind y.now fun y => EM.lift (f x y)
/-- a chain of two comparisons: the middle once -/
def t3 (f g : D → D → Option Bool) (a b c : EM PV) : EM Bool := EM.bind a fun x => EM.bind b fun y => EM.bind x.now fun x => EM.bind y.now fun y' => EM.bind (EM.lift (f x y')) fun k =>
  if k then EM.bind c fun z => EM.bind y.now fun y => EM.bind z.now fun z => EM.lift (g y z) else EM.pure false
/-! ### statements -/
inductive Fl where
  | nx | bk | ct | ret (s : SV)
def sExp (x : EM SV) : EM Fl := EM.bind x fun _ => EM.pure .nx
def sRet (x : EM SV) : EM Fl := EM.bind x fun s => EM.pure (.ret s)
def sRetN : EM Fl := EM.pure (.ret (.val .non))
def sPass : EM Fl := EM.pure .nx
def sBrk : EM Fl := EM.pure .bk
def sCnt : EM Fl := EM.pure .ct
/-- targets: a name, or a tuple of targets -/
abbrev TG := D → Env → Option Env
def gNm (i : Nat) : TG := fun d e => some (setS e i (.val d))
def gGo : List TG → List D → Env → Option Env
  | [], [], e => some e
  | t :: ts, d :: ds, e => (t d e).bind fun e => gGo ts ds e
  | _, _, _ => none
def gTup (ts : List TG) : TG := fun d e => match d with
  | .tup ds => gGo ts ds e
  | .tupw ds => gGo ts ds e
  | _ => none
def TG.em (t : TG) (d : D) : EM Unit := fun e m => match t d e with
  | some e' => .ok () e' m
  | none => .stuck
/-- x = e: an own object stays one's own -/
def sSet (i : Nat) (x : EM SV) : EM Fl := EM.bind x fun s e m => .ok .nx (setS e i s) m
def sAsg (t : TG) (x : EM SV) : EM Fl := EM.bind x fun s => EM.bind (TG.em t s.d) fun _ => EM.pure .nx
def sSeq (a b : EM Fl) : EM Fl := EM.bind a fun f => match f with
  | .nx => b
  | f => EM.pure f
def sIf (c : EM Bool) (a b : EM Fl) : EM Fl := EM.bind c fun x => if x then a else b
/-- for: the items, one after another -/
def sForGo (t : TG) (b : EM Fl) : List D → EM Fl
  | [] => EM.pure .nx
  | d :: ds => EM.bind (TG.em t d) fun _ => EM.bind b fun f => match f with
    | .nx => sForGo t b ds
    | .ct => sForGo t b ds
    | .bk => EM.pure .nx
    | .ret s => EM.pure (.ret s)
def sFor (t : TG) (it : EM (List D)) (b : EM Fl) : EM Fl := EM.bind it fun ds => sForGo t b ds
/-! ### comprehensions -/
def wipeE : List Nat → Env → Env
  | [], e => e
  | v :: vs, e => (wipeE vs e).set v none
/-- the names of the comprehension's own come back as they were -/
def backE : List Nat → Env → Env → Env
  | [], _, e => e
  | v :: vs, e0, e => (backE vs e0 e).set v (e0.getD v none)
def notOwn : Option SV → Bool
  | some (.own _) => false
  | _ => true
def okOwn (own : List Nat) (e : Env) : Bool := own.all fun i => notOwn (e.getD i none)
def lcGo (t : TG) (c : EM Bool) (x : EM D) (own : List Nat) : List D → EM (List D)
  | [] => EM.pure []
  | d :: ds => fun e m => match t d (wipeE own e) with
    | none => .stuck
    | some e => (c e m).bind fun k => if k then EM.bind x fun y => EM.bind (lcGo t c x own ds) fun ys => EM.pure (y :: ys) else lcGo t c x own ds
def eLc (t : TG) (it : EM (List D)) (c : EM Bool) (x : EM D) (own : List Nat) : EM SV := EM.bind it fun ds e m => if okOwn own e then
  match lcGo t c x own ds e m with
  | .ok ys e' m' => .ok (.own (.lst ys)) (backE own e e') m'
  | _ => .stuck
  else .stuck
def tYes : EM Bool := EM.pure true
/-! ### a def -/
def startE (ns : Nat) (ds : List D) : Env := ds.map (fun d => some (SV.val d)) ++ List.replicate (ns - ds.length) none
def Res.fr : Res Fl → FR
  | .ok .nx _ m => .ok (.val .non) m
  | .ok (.ret s) _ m => .ok s m
  | .err x _ m => .err x m
  | _ => .stuck
/-- a def of np parameters, ns names in all -/
def mkF (np ns : Nat) (b : EM Fl) : FT := fun ds m => if ds.length = np then (b (startE ns ds) m).fr else .stuck
end PI
namespace PI
open PySem
/-! ### built-ins by values -/
def nowL : List PV → EM (List D)
  | [] => EM.pure []
  | p :: ps => EM.bind p.now fun d => EM.bind (nowL ps) fun ds => EM.pure (d :: ds)
/-- a built-in called: nothing is kept of the arguments -/
def eB (f : List D → Option SV) (es : EM (List PV)) : EM SV := EM.bind es fun ps => EM.bind (nowL ps) fun ds => EM.lift (f ds)
/-- the built-in types that have methods here -/
inductive Ty where
  | list | tuple | dict | str
  deriving DecidableEq
def Ty.has : Ty → D → Bool
  | .list, .lst _ => true
  | .tuple, .tup _ => true
  | .dict, .dic _ => true
  | .str, .str _ => true
  | _, _ => false
/-- a method that changes nothing -/
def eM (T : Ty) (f : D → List D → Option SV) (a : EM PV) (es : EM (List PV)) : EM SV := EM.bind a fun p => EM.bind p.now fun d0 => if T.has d0 then
  EM.bind es fun ps => EM.bind p.now fun d => EM.bind (nowL ps) fun ds => EM.lift (f d ds) else fun _ _ => .stuck
/-- the object at an operand, changed -/
def PV.chg (p : PV) (f : MO → Option (D × MO)) : EM SV := fun e m => match p with
  | .sl i => match e.getD i none with
    | some (.own o) => match f o with
      | some (d, o') => .ok (.val d) (setS e i (.own o')) m
      | none => .stuck
    | _ => .stuck
  | .v (.obj n) => match m[n]? with
    | some o => match f o with
      | some (d, o') => .ok (.val d) e (m.set n o')
      | none => .stuck
    | none => .stuck
  | _ => .stuck
def MO.is : Ty → MO → Bool
  | .list, .lst _ => true
  | .dict, .dic _ => true
  | _, _ => false
/-- a method that changes its object; the arguments are kept -/
def eMut (T : Ty) (f : MO → List D → Option (D × MO)) (a : EM PV) (es : EM (List D)) : EM SV := EM.bind a fun p => EM.bind p.now fun d0 => if T.has d0 then
  EM.bind es fun ds => p.chg fun o => f o ds else fun _ _ => .stuck
/-- o[i] = v -/
def sPut (f : MO → D → D → Option MO) (v : EM D) (o : EM PV) (i : EM D) : EM Fl := EM.bind v fun d => EM.bind o fun p => EM.bind i fun k => EM.bind (p.chg fun u => (f u k d).map fun u' => (.non, u')) fun _ => EM.pure .nx
/-- and, or as values (of truths) -/
def eAndV (a b : EM SV) : EM SV := EM.bind a fun s => match s with
  | .val (.bl true) => b
  | .val (.bl false) => EM.pure (.val (.bl false))
  | _ => fun _ _ => .stuck
def eOrV (a b : EM SV) : EM SV := EM.bind a fun s => match s with
  | .val (.bl true) => EM.pure (.val (.bl true))
  | .val (.bl false) => b
  | _ => fun _ _ => .stuck
def eNotV (a : EM SV) : EM SV := EM.bind a fun s => match s with
  | .val (.bl b) => EM.pure (.val (.bl (!b)))
  | _ => fun _ _ => .stuck
end PI
namespace PI
open PySem
/-! ### what loops walk -/
def itemsOf : D → Option (List D)
  | .lst ds => some ds
  | .tup ds => some ds
  | .tupw ds => some ds
  | .str cs => some (cs.map fun c => .str [c])
  | _ => none
def itSeq (m : EM SV) : EM (List D) := EM.bind m fun s => EM.lift (itemsOf s.d)
def rangeD (lo hi : Int) : List D := (List.range (hi - lo).toNat).map fun (i : Nat) => .int (lo + i)
def itR1 (es : EM (List PV)) : EM (List D) := EM.bind es fun ps => EM.bind (nowL ps) fun ds => match ds with
  | [.int n] => if -100000 ≤ n ∧ n ≤ 100000 then EM.pure (rangeD 0 n) else fun _ _ => .stuck
  | _ => fun _ _ => .stuck
def itR2 (es : EM (List PV)) : EM (List D) := EM.bind es fun ps => EM.bind (nowL ps) fun ds => match ds with
  | [.int a, .int b] => if (-100000 ≤ a ∧ a ≤ 100000) ∧ -100000 ≤ b ∧ b ≤ 100000 then EM.pure (rangeD a b) else fun _ _ => .stuck
  | _ => fun _ _ => .stuck
end PI
namespace PI
open PySem
/-! ### dicts walked -/
def itBy (f : D → Option (List D)) (m : EM SV) : EM (List D) := EM.bind m fun s => EM.lift (f s.d)
end PI
/-! PIFun: what the built-in operators and functions give, on my values. -/
namespace PI
open PySem
def D.flatKey : D → Bool
  | .int _ => true
  | .str _ => true
  | _ => false
mutual
/-- plain data -/
def dat : D → Option PyData
  | .non => some .none
  | .bl b => some (.bool b)
  | .int i => some (.int i)
  | .str cs => some (.str ⟨cs.toArray⟩)
  | .tup xs => (datL xs).map .tuple
  | .tupw xs => (datL xs).map .tuple
  | .lst xs => (datL xs).map .list
  | .dic kvs => (datK kvs).map .dict
  | _ => none
def datL : List D → Option (List PyData)
  | [] => some []
  | d :: ds => (dat d).bind fun p => (datL ds).map (p :: ·)
def datK : List (D × D) → Option (List (PyData × PyData))
  | [] => some []
  | (k, d) :: r => if k.flatKey then (dat k).bind fun q => (dat d).bind fun p => (datK r).map ((q, p) :: ·) else none
end
mutual
/-- no list lies within -/
def noLst : PyData → Bool
  | .list _ => false
  | .tuple xs => noLstL xs
  | .dict kvs => noLstK kvs
  | _ => true
def noLstL : List PyData → Bool
  | [] => true
  | p :: ps => noLst p && noLstL ps
def noLstK : List (PyData × PyData) → Bool
  | [] => true
  | (q, p) :: ps => noLst q && noLst p && noLstK ps
end
def sv (d : D) : Option SV := some (.val d)
def small (i : Int) : Bool := decide (-(2 ^ 64) < i ∧ i < 2 ^ 64)
def okLen (n : Nat) : Bool := decide (n ≤ 1000000)
/-! operators -/
def fAdd : D → D → Option SV
  | .int i, .int j => sv (.int (i + j))
  | .str a, .str b => if okLen (a.length + b.length) then sv (.str (a ++ b)) else none
  | .lst a, .lst b => if okLen (a.length + b.length) then some (.own (.lst (a ++ b))) else none
  | .tup a, .tup b => if okLen (a.length + b.length) then sv (.tup (a ++ b)) else none
  | _, _ => none
def fSub : D → D → Option SV
  | .int i, .int j => sv (.int (i - j))
  | _, _ => none
def fMul : D → D → Option SV
  | .int i, .int j => if small i || small j then sv (.int (i * j)) else none
  | _, _ => none
def fDiv : D → D → Option SV
  | .int i, .int j => if 0 < j ∧ j < 10 ^ 30 then sv (.int (i / j)) else none
  | _, _ => none
def fMod : D → D → Option SV
  | .int i, .int j => if 0 < j then sv (.int (i % j)) else none
  | _, _ => none
def fPow : D → D → Option SV
  | .int i, .int j => if 0 ≤ j ∧ j ≤ 1000 ∧ small i ∧ -(2 ^ 63) < i then sv (.int (i ^ j.toNat)) else none
  | _, _ => none
def fNeg : D → Option SV
  | .int i => sv (.int (-i))
  | _ => none
/-! comparisons -/
/-- two values that == compares -/
def eqOk (p q : PyData) : Bool := p.plain && q.plain && decide (min p.depth q.depth ≤ 60)
def fEq : D → D → Option Bool
  | .int a, .int b => some (a == b)
  | .str a, .str b => some (a == b)
  | .bl a, .bl b => some (a == b)
  | x, y => (dat x).bind fun p => (dat y).bind fun q => if eqOk p q then some (PyData.eqv p q) else none
def fNe (x y : D) : Option Bool := (fEq x y).map (!·)
/-- two values that < compares -/
def cmpOk (p q : PyData) : Bool := W.alike p q && (match p with | .none => false | _ => true) && decide (p.depth ≤ 60)
def fLt : D → D → Option Bool
  | .int a, .int b => some (decide (a < b))
  | x, y => (dat x).bind fun p => (dat y).bind fun q => if cmpOk p q then some (W.dataLt p q) else none
def fLe : D → D → Option Bool
  | .int a, .int b => some (decide (a ≤ b))
  | x, y => (dat x).bind fun p => (dat y).bind fun q => if cmpOk p q then some (!W.dataLt q p) else none
def fGt : D → D → Option Bool
  | .int a, .int b => some (decide (b < a))
  | x, y => (dat x).bind fun p => (dat y).bind fun q => if cmpOk p q then some (W.dataLt q p) else none
def fGe : D → D → Option Bool
  | .int a, .int b => some (decide (b ≤ a))
  | x, y => (dat x).bind fun p => (dat y).bind fun q => if cmpOk p q then some (!W.dataLt p q) else none
/-! keys of dicts -/
mutual
def keyEq : D → D → Bool
  | .int a, .int b => a == b
  | .str a, .str b => a == b
  | .tup a, .tup b => keyEqL a b
  | .tup a, .tupw b => keyEqL a b
  | .tupw a, .tup b => keyEqL a b
  | .tupw a, .tupw b => keyEqL a b
  | _, _ => false
def keyEqL : List D → List D → Bool
  | [], [] => true
  | a :: r, b :: s => keyEq a b && keyEqL r s
  | _, _ => false
end
/-- a tuple of flat keys, written as a display -/
def D.tupwKey : D → Bool
  | .tupw l => l.all D.flatKey
  | _ => false
def D.isTup : D → Bool
  | .tup _ => true
  | _ => false
/-- what may be looked up in a dict -/
def dOk (kvs : List (D × D)) (k : D) : Bool := k.flatKey && kvs.all (·.1.flatKey) || k.tupwKey && kvs.all (·.1.isTup)
def dGet (kvs : List (D × D)) (k : D) : Option D := (kvs.find? fun p => keyEq p.1 k).map (·.2)
/-- a key that is kept: a tuple whose text is known -/
def D.keep : D → D
  | .tupw l => .tup l
  | d => d
def dPutN (kvs : List (D × D)) (k v : D) : List (D × D) := if kvs.any (fun p => keyEq p.1 k) then kvs.map (fun p => if keyEq p.1 k then (p.1, v) else p) else kvs ++ [(k.keep, v)]
/-! in -/
def inOk (p : PyData) (qs : List PyData) : Bool := p.plain && PyData.plainAll qs && decide (min (PyData.depthAll qs) p.depth ≤ 60)
def fIn : D → D → Option Bool
  | .str [c], .str b => some (decide (c ∈ b))
  | x, .lst ys => (dat x).bind fun p => (datL ys).bind fun qs => if inOk p qs then some (qs.any fun q => PyData.eqv q p) else none
  | x, .tup ys => (dat x).bind fun p => (datL ys).bind fun qs => if inOk p qs then some (qs.any fun q => PyData.eqv q p) else none
  | x, .tupw ys => (dat x).bind fun p => (datL ys).bind fun qs => if inOk p qs then some (qs.any fun q => PyData.eqv q p) else none
  | x, .dic kvs => if dOk kvs x then some (dGet kvs x).isSome else none
  | _, _ => none
def fNotIn (x y : D) : Option Bool := (fIn x y).map (!·)
/-! subscripts, slices -/
def ixD (n : Nat) (i : Int) : Option Nat := if 0 ≤ i then (if i < n then some i.toNat else none) else if -(n : Int) ≤ i then some (i + n).toNat else none
def atD {α : Type} (xs : List α) (i : Int) : Option α := (ixD xs.length i).bind fun j => xs[j]?
def fIx : D → D → Option SV
  | .lst xs, .int i => (atD xs i).map .val
  | .tup xs, .int i => (atD xs i).map .val
  | .tupw xs, .int i => (atD xs i).map .val
  | .str cs, .int i => (atD cs i).map fun c => .val (.str [c])
  | .dic kvs, k => if dOk kvs k then (dGet kvs k).map .val else none
  | _, _ => none
/-- a slice's end -/
def cutEnd (n dflt : Nat) : Option Int → Nat
  | none => dflt
  | some i => if i < 0 then (i + n).toNat else min i.toNat n
def cutD {α : Type} (xs : List α) (lo hi : Option Int) : List α := (xs.drop (cutEnd xs.length 0 lo)).take (cutEnd xs.length xs.length hi - cutEnd xs.length 0 lo)
def fCut : D → Option Int → Option Int → Option SV
  | .lst xs, lo, hi => some (.own (.lst (cutD xs lo hi)))
  | .tup xs, lo, hi => sv (.tup (cutD xs lo hi))
  | .str cs, lo, hi => sv (.str (cutD cs lo hi))
  | _, _, _ => none
/-! functions -/
def fLen : List D → Option SV
  | [.lst xs] => sv (.int xs.length)
  | [.tup xs] => sv (.int xs.length)
  | [.tupw xs] => sv (.int xs.length)
  | [.str xs] => sv (.int xs.length)
  | [.dic xs] => if xs.all (·.1.flatKey) then sv (.int xs.length) else none
  | _ => none
def blsD : List D → Option (List Bool)
  | [] => some []
  | .bl b :: r => (blsD r).map (b :: ·)
  | _ :: _ => none
def intsD : List D → Option (List Int)
  | [] => some []
  | .int b :: r => (intsD r).map (b :: ·)
  | _ :: _ => none
def fAll : List D → Option SV
  | [.lst xs] => (blsD xs).map fun bs => .val (.bl (bs.all id))
  | _ => none
def fMin : List D → Option SV
  | [.int i, .int j] => sv (.int (if j < i then j else i))
  | [.lst xs] => match intsD xs with
    | some (n :: ns) => sv (.int (ns.foldl min n))
    | _ => none
  | _ => none
def fMax : List D → Option SV
  | [.int i, .int j] => sv (.int (if j > i then j else i))
  | [.lst xs] => match intsD xs with
    | some (n :: ns) => sv (.int (ns.foldl max n))
    | _ => none
  | _ => none
def fList : List D → Option SV
  | [.lst xs] => some (.own (.lst xs))
  | [.tup xs] => some (.own (.lst xs))
  | [.tupw xs] => some (.own (.lst xs))
  | _ => none
def fTuple : List D → Option SV
  | [.lst xs] => sv (.tup xs)
  | [.tup xs] => sv (.tup xs)
  | _ => none
def alikeL (ps : List PyData) : Bool := ps.all fun p => ps.all fun q => W.alike p q
def tyD : D → Option String
  | .non => some "NoneType"
  | .bl _ => some "bool"
  | .int _ => some "int"
  | .str _ => some "str"
  | .tup _ => some "tuple"
  | .tupw _ => some "tuple"
  | .lst _ => some "list"
  | .dic kvs => if kvs.all (·.1.flatKey) then some "dict" else none
  | _ => none
def isiTy (t T : String) : Option Bool := if T = "int" then some (t = "int" || t = "bool") else if T = "bool" || T = "str" || T = "tuple" || T = "list" || T = "dict" then some (t = T) else none
def fIsi : List D → Option SV
  | [x, .ty T] => (tyD x).bind fun t => (isiTy t T).map fun b => .val (.bl b)
  | _ => none
end PI
namespace PI
open PySem
/-! methods -/
/-- what never changes -/
def D.still : D → Bool
  | .lst _ => false
  | .dic _ => false
  | .ins _ _ => false
  | _ => true
/-- the place of the first that is equal -/
def placeD (ds : List D) (x : D) : Option Nat := (dat x).bind fun p => (datL ds).bind fun ps => if inOk p ps then ps.findIdx? fun q => PyData.eqv q p else none
def fIndexL : D → List D → Option SV
  | .lst ds, [x] => (placeD ds x).map fun j => .val (.int (j : Nat))
  | _, _ => none
def fIndexT : D → List D → Option SV
  | .tup ds, [x] => (placeD ds x).map fun j => .val (.int (j : Nat))
  | _, _ => none
def countD (ds : List D) (x : D) : Option SV := (dat x).bind fun p => (datL ds).bind fun ps => if inOk p ps then sv (.int (ps.countP fun q => PyData.eqv q p : Nat)) else none
def fCountL : D → List D → Option SV
  | .lst ds, [x] => countD ds x
  | _, _ => none
def fCountT : D → List D → Option SV
  | .tup ds, [x] => countD ds x
  | _, _ => none
/-- x.append(y) .. -/
def mAppend : MO → List D → Option (D × MO)
  | .lst ds, [d] => if okLen (ds.length + 1) then some (.non, .lst (ds ++ [d])) else none
  | _, _ => none
def mPop : MO → List D → Option (D × MO)
  | .lst ds, [] => match ds[ds.length - 1]? with
    | some d => some (d, .lst ds.dropLast)
    | none => none
  | .lst ds, [.int i] => match ixD ds.length i with
    | some j => match ds[j]? with
      | some d => some (d, .lst (ds.eraseIdx j))
      | none => none
    | none => none
  | _, _ => none
/-- o[k] = v -/
def pLst : MO → D → D → Option MO
  | .lst ds, .int i, d => (ixD ds.length i).map fun j => .lst (ds.set j d)
  | .dic kvs, k, d => if dOk kvs k && okLen (kvs.length + 1) then some (.dic (dPutN kvs k d)) else none
  | _, _, _ => none
end PI
namespace PI
open PySem
/-! the rest of the combinators -/
def ePart (a : EM PV) : EM (Option Int) := EM.bind a fun p => EM.bind p.now fun d => match d with
  | .int i => EM.pure (some i)
  | _ => fun _ _ => .stuck
def eNoPart : EM (Option Int) := EM.pure none
def eCut (a : EM PV) (lo hi : EM (Option Int)) : EM SV := EM.bind a fun p => EM.bind lo fun l => EM.bind hi fun h => EM.bind p.now fun d => EM.lift (fCut d l h)
def eDic0 : EM SV := EM.pure (.own (.dic []))
/-- an object of one's own becomes a shared one -/
def eShare (m : EM SV) : EM SV := EM.bind m fun s => match s with
  | .own o => fun e M => .ok (.val (.obj M.length)) e (M ++ [o])
  | .val d => EM.pure (.val d)
/-- where a parameter's value comes from: the positional values, the defaults, the keywords' values -/
inductive Src where
  | p (j : Nat) | d (j : Nat) | k (j : Nat)
def pickL {α : Type} (ss : List Src) (us its ws : List α) : List α := ss.filterMap fun s => match s with
  | .p j => us[j]?
  | .d j => its[j]?
  | .k j => ws[j]?
/-- f(e, .., k = v, ..) -/
def eCallK (f : FT) (ss : List Src) (dd : List D) (es kws : EM (List D)) : EM SV := EM.bind es fun ds => EM.bind kws fun zs e m => (f (pickL ss ds dd zs) m).to e
/-- f(e, ..): dd the defaults that fill up -/
def eCallD (f : FT) (dd : List D) (es : EM (List D)) : EM SV := EM.bind es fun ds e m => (f (ds ++ dd) m).to e
/-- {i: j}, two numbers -/
def eDicI (i j : Int) : EM SV := EM.pure (.own (.dic [(.int i, .int j)]))
/-- x = e of a name that nothing changes: kept at once -/
def sSetF (i : Nat) (x : EM SV) : EM Fl := EM.bind x fun s e m => .ok .nx (setS e i (.val s.d)) m
/-! enumerate, zip -/
def enumG : Nat → List D → List D
  | _, [] => []
  | n, x :: xs => .tupw [.int n, x] :: enumG (n + 1) xs
def enumOf : List D → Option (List D)
  | [.lst xs] => some (enumG 0 xs)
  | [.tup xs] => some (enumG 0 xs)
  | [.tupw xs] => some (enumG 0 xs)
  | _ => none
def zipG : List D → List D → List D
  | x :: xs, y :: ys => .tupw [x, y] :: zipG xs ys
  | _, _ => []
def zipOf : List D → Option (List D)
  | [.lst xs, .lst ys] => some (zipG xs ys)
  | [.tup xs, .tup ys] => some (zipG xs ys)
  | _ => none
def itArgs (f : List D → Option (List D)) (es : EM (List D)) : EM (List D) := EM.bind es fun ds => EM.lift (f ds)
end PI
/-! PIFun2: further built-ins by values. -/
namespace PI
open PySem
/-- less, of alike data -/
def ltD (a b : D) : Bool := match dat a, dat b with
  | some p, some q => W.dataLt p q
  | _, _ => false
def minOk (ps : List PyData) : Bool := alikeL ps && ps.all (fun p => match p with | .none => false | _ => true) && decide (PyData.depthAll ps ≤ 60)
/-- the first of the least -/
def minFold (x : D) (xs : List D) : D := xs.foldl (fun a y => if ltD y a then y else a) x
def fMinA (x : D) (xs : List D) : Option SV := (datL (x :: xs)).bind fun ps => if minOk ps then sv (minFold x xs) else none
def fMinD (ds : List D) : Option SV := match fMin ds with
  | some r => some r
  | none => match ds with
    | [.lst (x :: xs)] => fMinA x xs
    | [a, b] => if a.still && b.still then fMinA a [b] else none
    | _ => none
/-- a.join(xs) -/
def strsD : List D → Option (List (List Nat))
  | [] => some []
  | .str a :: r => (strsD r).map (a :: ·)
  | _ :: _ => none
def joinG (a : List Nat) : List (List Nat) → List Nat
  | [] => []
  | [p] => p
  | p :: q :: r => p ++ (a ++ joinG a (q :: r))
def joinOk (a : List Nat) (ss : List (List Nat)) : Bool := decide ((ss.map (·.length)).sum + ss.length * a.length ≤ 1000000)
def fJoin : D → List D → Option SV
  | .str a, [.lst ds] => (strsD ds).bind fun ss => if joinOk a ss then sv (.str (joinG a ss)) else none
  | .str a, [.tup ds] => (strsD ds).bind fun ss => if joinOk a ss then sv (.str (joinG a ss)) else none
  | _, _ => none
/-- a method of lists or tuples -/
def eM2 (f1 f2 : D → List D → Option SV) (a : EM PV) (es : EM (List PV)) : EM SV := EM.bind a fun p => EM.bind p.now fun d0 => if Ty.list.has d0 then
  EM.bind es fun ps => EM.bind p.now fun d => EM.bind (nowL ps) fun ds => EM.lift (f1 d ds) else if Ty.tuple.has d0 then
  EM.bind es fun ps => EM.bind p.now fun d => EM.bind (nowL ps) fun ds => EM.lift (f2 d ds) else fun _ _ => .stuck
/-- xs[::-1] -/
def fRev : D → Option SV
  | .lst xs => some (.own (.lst xs.reverse))
  | .tup xs => sv (.tup xs.reverse)
  | _ => none
/-- a built-in called with keywords -/
def eBK (f : List D → List D → Option SV) (es : EM (List PV)) (ks : EM (List D)) : EM SV := EM.bind es fun ps => EM.bind ks fun zs => EM.bind (nowL ps) fun ds => EM.lift (f ds zs)
/-- xs[::-1] -/
def eRev (a : EM PV) : EM SV := EM.bind a fun p => EM.bind p.now fun d => EM.lift (fRev d)
/-- x op= e, of whole numbers -/
def augK (i : Nat) (f : Int → Int → Int) (a : Int) : SV → EM Fl
  | .val (.int b) => fun e m => .ok .nx (setS e i (.val (.int (f a b)))) m
  | _ => fun _ _ => .stuck
def sAug (i : Nat) (f : Int → Int → Int) (x : EM SV) : EM Fl := fun e m => match e.getD i none with
  | some (.val (.int a)) => EM.bind x (augK i f a) e m
  | _ => .stuck
end PI
/-! PIEv: my combinators run by simp; comprehensions, loops by lemmas. -/
namespace PI
open PySem
section
variable {α β : Type} (e : Env) (m : MH)
@[simp] theorem ev_setS (i : Nat) (s : SV) : setS e i s = e.set i (some s) := rfl
@[simp] theorem ev_con (d : D) : eCon d e m = .ok (.val d) e m := rfl
/-- a slot read -/
def locR (i : Nat) : Option SV → Res SV
  | some (.val d) => .ok (.val d) e m
  | some (.own o) => .ok (.val o.snap) (e.set i (some (.val o.snap))) m
  | none => .stuck
@[simp] theorem ev_loc (i : Nat) : eLoc i e m = locR e m i (e.getD i none) := by unfold eLoc locR; cases e.getD i none with | none => rfl | some s => cases s <;> rfl
@[simp] theorem locR_v (i : Nat) (d : D) : locR e m i (some (.val d)) = .ok (.val d) e m := rfl
@[simp] theorem locR_o (i : Nat) (o : MO) : locR e m i (some (.own o)) = .ok (.val o.snap) (e.set i (some (.val o.snap))) m := rfl
def movR : Option SV → Res SV
  | some s => .ok s e m
  | none => .stuck
@[simp] theorem ev_mov (i : Nat) : eMov i e m = movR e m (e.getD i none) := by unfold eMov movR; cases e.getD i none <;> rfl
@[simp] theorem movR_s (s : SV) : movR e m (some s) = .ok s e m := rfl
def plocR (i : Nat) : Option SV → Res PV
  | some (.val d) => .ok (.v d) e m
  | some (.own _) => .ok (.sl i) e m
  | none => .stuck
@[simp] theorem ev_ploc (i : Nat) : pLoc i e m = plocR e m i (e.getD i none) := by unfold pLoc plocR; cases e.getD i none with | none => rfl | some s => cases s <;> rfl
@[simp] theorem plocR_v (i : Nat) (d : D) : plocR e m i (some (.val d)) = .ok (.v d) e m := rfl
@[simp] theorem plocR_o (i : Nat) (o : MO) : plocR e m i (some (.own o)) = .ok (.sl i) e m := rfl
@[simp] theorem sv_v (d : D) : (SV.val d).d = d := rfl
@[simp] theorem sv_o (o : MO) : (SV.own o).d = o.snap := rfl
@[simp] theorem snap_l (x : List D) : (MO.lst x).snap = .lst x := rfl
@[simp] theorem snap_d (x : List (D × D)) : (MO.dic x).snap = .dic x := rfl
@[simp] theorem snap_i (c : Nat) (x : List (Nat × D)) : (MO.ins c x).snap = .ins c x := rfl
@[simp] theorem ev_pof (x : EM SV) : pOf x e m = (x e m).bind fun s => EM.pure (.v s.d) := rfl
/-- what a shared object holds -/
def objR : Option MO → Res D
  | some o => .ok o.snap e m
  | none => .stuck
@[simp] theorem objR_s (o : MO) : objR e m (some o) = .ok o.snap e m := rfl
@[simp] theorem now_obj (n : Nat) : (PV.v (.obj n)).now e m = objR e m m[n]? := by unfold PV.now objR; cases h : m[n]? <;> simp [h]
@[simp] theorem now_non : (PV.v .non).now e m = .ok .non e m := rfl
@[simp] theorem now_bl (b : Bool) : (PV.v (.bl b)).now e m = .ok (.bl b) e m := rfl
@[simp] theorem now_int (b : Int) : (PV.v (.int b)).now e m = .ok (.int b) e m := rfl
@[simp] theorem now_str (b : List Nat) : (PV.v (.str b)).now e m = .ok (.str b) e m := rfl
@[simp] theorem now_tup (b : List D) : (PV.v (.tup b)).now e m = .ok (.tup b) e m := rfl
@[simp] theorem now_tupw (b : List D) : (PV.v (.tupw b)).now e m = .ok (.tupw b) e m := rfl
@[simp] theorem now_lst (b : List D) : (PV.v (.lst b)).now e m = .ok (.lst b) e m := rfl
@[simp] theorem now_dic (b : List (D × D)) : (PV.v (.dic b)).now e m = .ok (.dic b) e m := rfl
@[simp] theorem now_ins (c : Nat) (b : List (Nat × D)) : (PV.v (.ins c b)).now e m = .ok (.ins c b) e m := rfl
@[simp] theorem now_ty (n : String) : (PV.v (.ty n)).now e m = .ok (.ty n) e m := rfl
@[simp] theorem now_fn (n : Nat) : (PV.v (.fn n)).now e m = .ok (.fn n) e m := rfl
@[simp] theorem now_cls (n : Nat) : (PV.v (.cls n)).now e m = .ok (.cls n) e m := rfl
def slR : Option SV → Res D
  | some s => .ok s.d e m
  | none => .stuck
@[simp] theorem slR_s (s : SV) : slR e m (some s) = .ok s.d e m := rfl
@[simp] theorem now_sl (i : Nat) : (PV.sl i).now e m = slR e m (e.getD i none) := by
  simp only [PV.now, slR]
  all_goals (cases e.getD i none <;> rfl)
/-- a value that is no shared object -/
def D.noObj : D → Bool
  | .obj _ => false
  | _ => true
theorem now_v {d : D} (h : d.noObj = true) : (PV.v d).now e m = .ok d e m := by cases d <;> first | rfl | cases h
@[simp] theorem ev_use (x : EM SV) : eUse x e m = (x e m).bind fun s => EM.pure s.d := rfl
@[simp] theorem ev_e1 (f : D → Option SV) (a : EM PV) : e1 f a e m = (a e m).bind fun x => EM.bind x.now fun x => EM.lift (f x) := rfl
@[simp] theorem ev_e2 (f : D → D → Option SV) (a b : EM PV) : e2 f a b e m = (a e m).bind fun x => EM.bind b fun y => EM.bind x.now fun x => EM.bind y.now fun y => EM.lift (f x y) := rfl
@[simp] theorem ev_nil : (eNil : EM (List α)) e m = .ok [] e m := rfl
@[simp] theorem ev_cons (a : EM α) (r : EM (List α)) : eCons a r e m = (a e m).bind fun x => EM.bind r fun xs => EM.pure (x :: xs) := rfl
@[simp] theorem ev_tup (es : EM (List D)) : eTup es e m = (es e m).bind fun ds => if ds.length ≤ 1000 then EM.pure (.val (.tup ds)) else fun _ _ => .stuck := rfl
@[simp] theorem ev_tupw (es : EM (List D)) : eTupW es e m = (es e m).bind fun ds => if ds.length ≤ 1000 then EM.pure (.val (.tupw ds)) else fun _ _ => .stuck := rfl
@[simp] theorem ev_lst (es : EM (List D)) : eLst es e m = (es e m).bind fun ds => if ds.length ≤ 1000 then EM.pure (.own (.lst ds)) else fun _ _ => .stuck := rfl
@[simp] theorem ev_dic0 : eDic0 e m = .ok (.own (.dic [])) e m := rfl
@[simp] theorem ev_dicI (i j : Int) : eDicI i j e m = .ok (.own (.dic [(.int i, .int j)])) e m := rfl
@[simp] theorem to_ok (v : SV) : (FR.ok v m).to e = .ok v e m := rfl
@[simp] theorem to_err (x : Xn) : (FR.err x m).to e = .err x e m := rfl
@[simp] theorem to_stuck : (FR.stuck).to e = .stuck := rfl
@[simp] theorem ev_callD (f : FT) (dd : List D) (es : EM (List D)) : eCallD f dd es e m = (es e m).bind fun ds e m => (f (ds ++ dd) m).to e := rfl
@[simp] theorem ev_callK (f : FT) (ss : List Src) (dd : List D) (es kws : EM (List D)) : eCallK f ss dd es kws e m = (es e m).bind fun ds => EM.bind kws fun zs e m => (f (pickL ss ds dd zs) m).to e := rfl
@[simp] theorem ev_isN (a : EM PV) : tIsN a e m = (a e m).bind fun p => EM.bind p.now fun d => EM.pure d.isNon := rfl
@[simp] theorem ev_isNN (a : EM PV) : tIsNN a e m = (a e m).bind fun p => EM.bind p.now fun d => EM.pure (!d.isNon) := rfl
@[simp] theorem ev_truN (a : EM PV) : tTruN a e m = (a e m).bind fun x => EM.bind x.now fun x => EM.lift (truthyN x) := rfl
@[simp] theorem tru_bl (b : Bool) : truthyN (.bl b) = some b := rfl
@[simp] theorem tru_int (b : Int) : truthyN (.int b) = some (b != 0) := rfl
@[simp] theorem tru_lst (b : List D) : truthyN (.lst b) = some (!b.isEmpty) := rfl
@[simp] theorem tru_tup (b : List D) : truthyN (.tup b) = some (!b.isEmpty) := rfl
@[simp] theorem tru_str (b : List Nat) : truthyN (.str b) = some (b.length != 0) := rfl
@[simp] theorem ev_and (a b : EM Bool) : tAnd a b e m = (a e m).bind fun x => if x then b else EM.pure false := rfl
@[simp] theorem ev_or (a b : EM Bool) : tOr a b e m = (a e m).bind fun x => if x then EM.pure true else b := rfl
@[simp] theorem ev_not (a : EM Bool) : tNot a e m = (a e m).bind fun x => EM.pure (!x) := rfl
@[simp] theorem ev_bool (a : EM Bool) : eBool a e m = (a e m).bind fun x => EM.pure (.val (.bl x)) := rfl
@[simp] theorem ev_ite (c : EM Bool) (a b : EM SV) : eIte c a b e m = (c e m).bind fun x => if x then a else b := rfl
@[simp] theorem ev_t2 (f : D → D → Option Bool) (a b : EM PV) : t2 f a b e m = (a e m).bind fun x => EM.bind b fun y => EM.bind x.now fun x => EM.bind y.now fun y => EM.lift (f x y) := rfl
@[simp] theorem ev_t3 (f g : D → D → Option Bool) (a b c : EM PV) : t3 f g a b c e m = (a e m).bind fun x => EM.bind b fun y => EM.bind x.now fun x => EM.bind y.now fun y' => EM.bind (EM.lift (f x y')) fun k =>
  if k then EM.bind c fun z => EM.bind y.now fun y => EM.bind z.now fun z => EM.lift (g y z) else EM.pure false := rfl
@[simp] theorem ite_ap (c : Prop) [Decidable c] (x y : EM α) : (if c then x else y) e m = if c then x e m else y e m := by split <;> rfl
@[simp] theorem ev_exp (x : EM SV) : sExp x e m = (x e m).bind fun _ => EM.pure .nx := rfl
@[simp] theorem ev_ret (x : EM SV) : sRet x e m = (x e m).bind fun s => EM.pure (.ret s) := rfl
@[simp] theorem ev_retN : sRetN e m = .ok (.ret (.val .non)) e m := rfl
@[simp] theorem ev_pass : sPass e m = .ok .nx e m := rfl
@[simp] theorem ev_brk : sBrk e m = .ok .bk e m := rfl
@[simp] theorem ev_cnt : sCnt e m = .ok .ct e m := rfl
def tgR (e : Env) (m : MH) : Option Env → Res Unit
  | some e' => .ok () e' m
  | none => .stuck
@[simp] theorem tgR_s (e' : Env) : tgR e m (some e') = .ok () e' m := rfl
@[simp] theorem ev_tg (t : TG) (d : D) : TG.em t d e m = tgR e m (t d e) := by unfold TG.em tgR; cases t d e <;> rfl
@[simp] theorem g_nm (i : Nat) (d : D) : gNm i d e = some (e.set i (some (.val d))) := rfl
@[simp] theorem g_go0 : gGo [] [] e = some e := rfl
@[simp] theorem g_go1 (t : TG) (ts : List TG) (d : D) (ds : List D) : gGo (t :: ts) (d :: ds) e = (t d e).bind fun e => gGo ts ds e := rfl
@[simp] theorem g_tup (ts : List TG) (ds : List D) : gTup ts (.tup ds) e = gGo ts ds e := rfl
@[simp] theorem g_tupw (ts : List TG) (ds : List D) : gTup ts (.tupw ds) e = gGo ts ds e := rfl
@[simp] theorem ev_set (i : Nat) (x : EM SV) : sSet i x e m = (x e m).bind fun s e m => .ok .nx (e.set i (some s)) m := rfl
@[simp] theorem ev_setF (i : Nat) (x : EM SV) : sSetF i x e m = (x e m).bind fun s e m => .ok .nx (e.set i (some (.val s.d))) m := rfl
@[simp] theorem ev_asg (t : TG) (x : EM SV) : sAsg t x e m = (x e m).bind fun s => EM.bind (TG.em t s.d) fun _ => EM.pure .nx := rfl
/-- what comes behind a statement -/
def seqR (b : EM Fl) : Fl → EM Fl
  | .nx => b
  | f => EM.pure f
@[simp] theorem seqR_n (b : EM Fl) : seqR b .nx = b := rfl
@[simp] theorem seqR_b (b : EM Fl) : seqR b .bk = EM.pure .bk := rfl
@[simp] theorem seqR_c (b : EM Fl) : seqR b .ct = EM.pure .ct := rfl
@[simp] theorem seqR_r (b : EM Fl) (s : SV) : seqR b (.ret s) = EM.pure (.ret s) := rfl
@[simp] theorem ev_seq (a b : EM Fl) : sSeq a b e m = (a e m).bind (seqR b) := by
  show (a e m).bind _ = _
  congr 1
@[simp] theorem ev_if (c : EM Bool) (a b : EM Fl) : sIf c a b e m = (c e m).bind fun x => if x then a else b := rfl
@[simp] theorem ev_for (t : TG) (it : EM (List D)) (b : EM Fl) : sFor t it b e m = (it e m).bind fun ds => sForGo t b ds := rfl
@[simp] theorem ev_nowL0 : nowL [] e m = .ok [] e m := rfl
@[simp] theorem ev_nowL1 (p : PV) (ps : List PV) : nowL (p :: ps) e m = (p.now e m).bind fun d => EM.bind (nowL ps) fun ds => EM.pure (d :: ds) := rfl
@[simp] theorem ev_B (f : List D → Option SV) (es : EM (List PV)) : eB f es e m = (es e m).bind fun ps => EM.bind (nowL ps) fun ds => EM.lift (f ds) := rfl
@[simp] theorem ev_BK (f : List D → List D → Option SV) (es : EM (List PV)) (ks : EM (List D)) : eBK f es ks e m = (es e m).bind fun ps => EM.bind ks fun zs => EM.bind (nowL ps) fun ds => EM.lift (f ds zs) := rfl
@[simp] theorem ev_rev (a : EM PV) : eRev a e m = (a e m).bind fun p => EM.bind p.now fun d => EM.lift (fRev d) := rfl
@[simp] theorem fRev_t (x : List D) : fRev (.tup x) = some (.val (.tup x.reverse)) := rfl
@[simp] theorem fRev_l (x : List D) : fRev (.lst x) = some (.own (.lst x.reverse)) := rfl
def augR (i : Nat) (f : Int → Int → Int) (x : EM SV) : Option SV → Res Fl
  | some (.val (.int a)) => EM.bind x (augK i f a) e m
  | _ => .stuck
@[simp] theorem ev_aug (i : Nat) (f : Int → Int → Int) (x : EM SV) : sAug i f x e m = augR e m i f x (e.getD i none) := by
  unfold sAug augR
  split <;> simp_all
@[simp] theorem augR_i (i : Nat) (f : Int → Int → Int) (x : EM SV) (a : Int) : augR e m i f x (some (.val (.int a))) = (x e m).bind (augK i f a) := rfl
@[simp] theorem augK_i (i : Nat) (f : Int → Int → Int) (a b : Int) : augK i f a (.val (.int b)) = fun e m => .ok .nx (e.set i (some (.val (.int (f a b))))) m := rfl
@[simp] theorem ev_M (T : Ty) (f : D → List D → Option SV) (a : EM PV) (es : EM (List PV)) : eM T f a es e m = (a e m).bind fun p => EM.bind p.now fun d0 => if T.has d0 then
  EM.bind es fun ps => EM.bind p.now fun d => EM.bind (nowL ps) fun ds => EM.lift (f d ds) else fun _ _ => .stuck := rfl
@[simp] theorem has_l (x : List D) : Ty.list.has (.lst x) = true := rfl
@[simp] theorem has_t (x : List D) : Ty.tuple.has (.tup x) = true := rfl
@[simp] theorem has_d (x : List (D × D)) : Ty.dict.has (.dic x) = true := rfl
@[simp] theorem has_s (x : List Nat) : Ty.str.has (.str x) = true := rfl
/-- a slot's object changed -/
def chgR (i : Nat) (f : MO → Option (D × MO)) : Option SV → Res SV
  | some (.own o) => match f o with
    | some (d, o') => .ok (.val d) (e.set i (some (.own o'))) m
    | none => .stuck
  | _ => .stuck
def chgO (n : Nat) (f : MO → Option (D × MO)) : Option MO → Res SV
  | some o => match f o with
    | some (d, o') => .ok (.val d) e (m.set n o')
    | none => .stuck
  | none => .stuck
def chg1 (k : D → MO → Res SV) : Option (D × MO) → Res SV
  | some (d, o') => k d o'
  | none => .stuck
@[simp] theorem chg1_s (k : D → MO → Res SV) (d : D) (o : MO) : chg1 k (some (d, o)) = k d o := rfl
@[simp] theorem chgR_o (i : Nat) (f : MO → Option (D × MO)) (o : MO) : chgR e m i f (some (.own o)) = chg1 (fun d o' => .ok (.val d) (e.set i (some (.own o'))) m) (f o) := by
  show (match f o with | some (d, o') => _ | none => _) = _
  cases f o <;> rfl
@[simp] theorem chgO_s (n : Nat) (f : MO → Option (D × MO)) (o : MO) : chgO e m n f (some o) = chg1 (fun d o' => .ok (.val d) e (m.set n o')) (f o) := by
  show (match f o with | some (d, o') => _ | none => _) = _
  cases f o <;> rfl
@[simp] theorem chg_sl (i : Nat) (f : MO → Option (D × MO)) : (PV.sl i).chg f e m = chgR e m i f (e.getD i none) := by
  show (match e.getD i none with | some (.own o) => _ | _ => _) = _
  cases e.getD i none with
  | none => rfl
  | some s => cases s <;> rfl
@[simp] theorem chg_obj (n : Nat) (f : MO → Option (D × MO)) : (PV.v (.obj n)).chg f e m = chgO e m n f m[n]? := by
  simp only [PV.chg, chgO]
  all_goals (cases m[n]? <;> rfl)
@[simp] theorem ev_mut (T : Ty) (f : MO → List D → Option (D × MO)) (a : EM PV) (es : EM (List D)) : eMut T f a es e m = (a e m).bind fun p => EM.bind p.now fun d0 => if T.has d0 then
  EM.bind es fun ds => p.chg fun o => f o ds else fun _ _ => .stuck := rfl
@[simp] theorem ev_put (f : MO → D → D → Option MO) (v : EM D) (o : EM PV) (i : EM D) : sPut f v o i e m = (v e m).bind fun d => EM.bind o fun p => EM.bind i fun k => EM.bind (p.chg fun u => (f u k d).map fun u' => (.non, u')) fun _ => EM.pure .nx := rfl
def andK (b : EM SV) : SV → EM SV
  | .val (.bl true) => b
  | .val (.bl false) => EM.pure (.val (.bl false))
  | _ => fun _ _ => .stuck
def orK (b : EM SV) : SV → EM SV
  | .val (.bl true) => EM.pure (.val (.bl true))
  | .val (.bl false) => b
  | _ => fun _ _ => .stuck
def notK : SV → EM SV
  | .val (.bl b) => EM.pure (.val (.bl (!b)))
  | _ => fun _ _ => .stuck
@[simp] theorem andK_b (b : EM SV) (x : Bool) : andK b (.val (.bl x)) = if x then b else EM.pure (.val (.bl false)) := by cases x <;> rfl
@[simp] theorem orK_b (b : EM SV) (x : Bool) : orK b (.val (.bl x)) = if x then EM.pure (.val (.bl true)) else b := by cases x <;> rfl
@[simp] theorem notK_b (x : Bool) : notK (.val (.bl x)) = EM.pure (.val (.bl (!x))) := rfl
@[simp] theorem ev_andV (a b : EM SV) : eAndV a b e m = (a e m).bind (andK b) := by
  show (a e m).bind _ = _
  congr 1
@[simp] theorem ev_orV (a b : EM SV) : eOrV a b e m = (a e m).bind (orK b) := by
  show (a e m).bind _ = _
  congr 1
@[simp] theorem ev_notV (a : EM SV) : eNotV a e m = (a e m).bind notK := by
  show (a e m).bind _ = _
  congr 1
@[simp] theorem ev_itSeq (x : EM SV) : itSeq x e m = (x e m).bind fun s => EM.lift (itemsOf s.d) := rfl
@[simp] theorem items_l (x : List D) : itemsOf (.lst x) = some x := rfl
@[simp] theorem items_t (x : List D) : itemsOf (.tup x) = some x := rfl
@[simp] theorem items_tw (x : List D) : itemsOf (.tupw x) = some x := rfl
@[simp] theorem items_s (x : List Nat) : itemsOf (.str x) = some (x.map fun c => .str [c]) := rfl
@[simp] theorem ev_itBy (f : D → Option (List D)) (x : EM SV) : itBy f x e m = (x e m).bind fun s => EM.lift (f s.d) := rfl
def r1K : List D → EM (List D)
  | [.int n] => if -100000 ≤ n ∧ n ≤ 100000 then EM.pure (rangeD 0 n) else fun _ _ => .stuck
  | _ => fun _ _ => .stuck
@[simp] theorem r1K_i (n : Int) : r1K [.int n] = if -100000 ≤ n ∧ n ≤ 100000 then EM.pure (rangeD 0 n) else fun _ _ => .stuck := rfl
@[simp] theorem ev_itR1 (es : EM (List PV)) : itR1 es e m = (es e m).bind fun ps => EM.bind (nowL ps) r1K := by
  show (es e m).bind _ = _
  congr 1
def r2K : List D → EM (List D)
  | [.int a, .int b] => if (-100000 ≤ a ∧ a ≤ 100000) ∧ -100000 ≤ b ∧ b ≤ 100000 then EM.pure (rangeD a b) else fun _ _ => .stuck
  | _ => fun _ _ => .stuck
@[simp] theorem r2K_i (a b : Int) : r2K [.int a, .int b] = if (-100000 ≤ a ∧ a ≤ 100000) ∧ -100000 ≤ b ∧ b ≤ 100000 then EM.pure (rangeD a b) else fun _ _ => .stuck := rfl
@[simp] theorem ev_itR2 (es : EM (List PV)) : itR2 es e m = (es e m).bind fun ps => EM.bind (nowL ps) r2K := by
  show (es e m).bind _ = _
  congr 1
def partK : D → EM (Option Int)
  | .int i => EM.pure (some i)
  | _ => fun _ _ => .stuck
@[simp] theorem partK_i (i : Int) : partK (.int i) = EM.pure (some i) := rfl
@[simp] theorem ev_part (a : EM PV) : ePart a e m = (a e m).bind fun p => EM.bind p.now partK := by
  show (a e m).bind _ = _
  congr 1
@[simp] theorem ev_noPart : eNoPart e m = .ok none e m := rfl
@[simp] theorem ev_cut (a : EM PV) (lo hi : EM (Option Int)) : eCut a lo hi e m = (a e m).bind fun p => EM.bind lo fun l => EM.bind hi fun h => EM.bind p.now fun d => EM.lift (fCut d l h) := rfl
def shareK : SV → EM SV
  | .own o => fun e M => .ok (.val (.obj M.length)) e (M ++ [o])
  | .val d => EM.pure (.val d)
@[simp] theorem shareK_o (o : MO) : shareK (.own o) e m = .ok (.val (.obj m.length)) e (m ++ [o]) := rfl
@[simp] theorem ev_share (x : EM SV) : eShare x e m = (x e m).bind shareK := by
  show (x e m).bind _ = _
  congr 1
@[simp] theorem fr_nx : (Res.ok Fl.nx e m).fr = .ok (.val .non) m := rfl
@[simp] theorem fr_ret (s : SV) : (Res.ok (Fl.ret s) e m).fr = .ok s m := rfl
@[simp] theorem fr_err (x : Xn) : (Res.err x e m : Res Fl).fr = .err x m := rfl
@[simp] theorem fr_stuck : (Res.stuck : Res Fl).fr = .stuck := rfl
@[simp] theorem ev_mkF (np ns : Nat) (b : EM Fl) (ds : List D) : mkF np ns b ds m = if ds.length = np then (b (startE ns ds) m).fr else .stuck := rfl
@[simp] theorem start_eq (ns : Nat) (ds : List D) : startE ns ds = ds.map (fun d => some (SV.val d)) ++ List.replicate (ns - ds.length) none := rfl
@[simp] theorem yes_eq : tYes e m = .ok true e m := rfl
end
/-! ### comprehensions -/
section
variable {t : TG} {it : EM (List D)} {c : EM Bool} {x : EM D} {own : List Nat} {e e1 : Env} {m m1 : MH} {ds : List D}
theorem set_getD (e : Env) (v : Nat) : e.set v (e.getD v none) = e := by
  apply List.ext_getElem?
  intro i
  rw [List.getElem?_set]
  split
  · rename_i h
    subst h
    rw [List.getD_eq_getElem?_getD]
    split
    · rename_i h
      rw [List.getElem?_eq_getElem h] <;> rfl
    · rename_i h
      rw [List.getElem?_eq_none (by omega)]
  · rfl
/-- a comprehension without effect: E the names while an item is looked at -/
theorem lcGo_pure {α : Type} (g : α → D) (E : α → Env) (p : α → Bool) (f : α → D) (e1 : Env) : ∀ (L : List α) (e' : Env), (e' = e1 ∨ ∃ d', e' = E d') →
    (∀ d ∈ L, t (g d) (wipeE own e1) = some (E d)) → (∀ d', wipeE own (E d') = wipeE own e1) →
    (∀ d ∈ L, c (E d) m = .ok (p d) (E d) m) → (∀ d ∈ L, p d = true → x (E d) m = .ok (f d) (E d) m) →
    ∃ e2, lcGo t c x own (L.map g) e' m = .ok ((L.filter p).map f) e2 m ∧ (e2 = e1 ∨ ∃ d', e2 = E d')
  | [], e', h, _, _, _, _ => ⟨e', rfl, h⟩
  | d :: ds, e', h, h1, h2, h3, h4 => by
    have hw : wipeE own e' = wipeE own e1 := by
      rcases h with rfl | ⟨d', rfl⟩
      · rfl
      · exact h2 d'
    obtain ⟨e2, q, r⟩ := lcGo_pure g E p f e1 ds (E d) (.inr ⟨d, rfl⟩) (fun y hy => h1 y (List.mem_cons_of_mem _ hy)) h2 (fun y hy => h3 y (List.mem_cons_of_mem _ hy)) (fun y hy => h4 y (List.mem_cons_of_mem _ hy))
    refine ⟨e2, ?_, r⟩
    have k1 := h1 d (List.mem_cons_self ..)
    have k3 := h3 d (List.mem_cons_self ..)
    rw [List.map_cons]
    unfold lcGo
    simp only [hw, k1]
    rw [k3]
    simp only [bind_ok]
    by_cases hp : p d = true
    · have k4 := h4 d (List.mem_cons_self ..) hp
      simp only [hp, if_true, bind_ap, k4, bind_ok, q, pure_ap, List.filter_cons, List.map_cons]
    · have hp : p d = false := by simpa using hp
      simp only [hp, Bool.false_eq_true, if_false, q, List.filter_cons]
theorem ev_lcE {α : Type} {L : List α} (g : α → D) (E : α → Env) (p : α → Bool) (f : α → D) (hit : it e m = .ok (L.map g) e1 m1) (ho : okOwn own e1 = true)
    (h1 : ∀ d ∈ L, t (g d) (wipeE own e1) = some (E d)) (h2 : ∀ d', wipeE own (E d') = wipeE own e1) (hb : ∀ d', backE own e1 (E d') = e1) (hb0 : backE own e1 e1 = e1)
    (h3 : ∀ d ∈ L, c (E d) m1 = .ok (p d) (E d) m1) (h4 : ∀ d ∈ L, p d = true → x (E d) m1 = .ok (f d) (E d) m1) :
    eLc t it c x own e m = .ok (.own (.lst ((L.filter p).map f))) e1 m1 := by
  obtain ⟨e2, q, r⟩ := lcGo_pure (t := t) (c := c) (x := x) (own := own) (m := m1) g E p f e1 L e1 (.inl rfl) h1 h2 h3 h4
  unfold eLc
  simp only [bind_ap, hit, bind_ok, ho, if_true, q]
  rcases r with rfl | ⟨d', rfl⟩
  · rw [hb0]
  · rw [hb]
theorem back1 (v : Nat) (e1 : Env) (s : Option SV) : backE [v] e1 (e1.set v s) = e1 := by
  show (List.set _ v s).set v (e1.getD v none) = e1
  rw [List.set_set, set_getD]
/-- for v in .. : one name -/
theorem ev_lc1G {α : Type} {L : List α} {v : Nat} (g : α → D) (p : α → Bool) (f : α → D) (hit : it e m = .ok (L.map g) e1 m1) (ho : notOwn (e1.getD v none) = true)
    (h3 : ∀ d ∈ L, c (e1.set v (some (.val (g d)))) m1 = .ok (p d) (e1.set v (some (.val (g d)))) m1) (h4 : ∀ d ∈ L, p d = true → x (e1.set v (some (.val (g d)))) m1 = .ok (f d) (e1.set v (some (.val (g d)))) m1) :
    eLc (gNm v) it c x [v] e m = .ok (.own (.lst ((L.filter p).map f))) e1 m1 := by
  refine ev_lcE g (fun d => e1.set v (some (.val (g d)))) p f hit (by unfold okOwn; rw [List.all_cons, ho]; rfl) (fun d _ => ?_) (fun d => ?_) (fun d => back1 v e1 _) ?_ h3 h4
  · show some (List.set (List.set e1 v none) v (some (.val (g d)))) = _
    rw [List.set_set]
  · show List.set (List.set e1 v _) v none = List.set e1 v none
    rw [List.set_set]
  · show List.set e1 v (e1.getD v none) = e1
    exact set_getD e1 v
/-- without a test -/
theorem ev_lcAG {α : Type} {L : List α} {v : Nat} (g : α → D) (f : α → D) (hit : it e m = .ok (L.map g) e1 m1) (ho : notOwn (e1.getD v none) = true)
    (h4 : ∀ d ∈ L, x (e1.set v (some (.val (g d)))) m1 = .ok (f d) (e1.set v (some (.val (g d)))) m1) :
    eLc (gNm v) it tYes x [v] e m = .ok (.own (.lst (L.map f))) e1 m1 := by
  rw [ev_lc1G (c := tYes) g (fun _ => true) f hit ho (fun d _ => rfl) fun d hd _ => h4 d hd, List.filter_eq_self.mpr fun _ _ => rfl]
theorem ev_lcA {α : Type} {L : List α} {v : Nat} (g : α → D) (f : α → D) (hit : it e m = .ok (L.map g) e m) (ho : notOwn (e.getD v none) = true)
    (h4 : ∀ d ∈ L, x (e.set v (some (.val (g d)))) m = .ok (f d) (e.set v (some (.val (g d)))) m) :
    eLc (gNm v) it tYes x [v] e m = .ok (.own (.lst (L.map f))) e m := ev_lcAG g f hit ho h4
end
end PI
namespace PI
open PySem
/-! ### loops -/
section
variable {t : TG} {b : EM Fl}
def loopK (t : TG) (b : EM Fl) (ds : List D) : Fl → EM Fl
  | .nx => sForGo t b ds
  | .ct => sForGo t b ds
  | .bk => EM.pure .nx
  | .ret s => EM.pure (.ret s)
@[simp] theorem loopK_n (ds : List D) : loopK t b ds .nx = sForGo t b ds := rfl
@[simp] theorem loopK_c (ds : List D) : loopK t b ds .ct = sForGo t b ds := rfl
@[simp] theorem loopK_b (ds : List D) : loopK t b ds .bk = EM.pure .nx := rfl
@[simp] theorem loopK_r (ds : List D) (s : SV) : loopK t b ds (.ret s) = EM.pure (.ret s) := rfl
@[simp] theorem for_nil (e : Env) (m : MH) : sForGo t b [] e m = .ok .nx e m := rfl
theorem for_cons (d : D) (ds : List D) (e : Env) (m : MH) : sForGo t b (d :: ds) e m = (TG.em t d e m).bind fun _ => EM.bind b (loopK t b ds) := by
  show (TG.em t d e m).bind _ = _
  congr 1
end
end PI
namespace PI
open PySem
/-! ### what holds behind a run -/
def Wp {α : Type} (r : Res α) (k : α → Env → MH → Prop) : Prop := match r with
  | .ok a e m => k a e m
  | _ => False
@[simp] theorem wp_ok {α : Type} (a : α) (e : Env) (m : MH) (k : α → Env → MH → Prop) : Wp (.ok a e m) k = k a e m := rfl
theorem Wp.ex {α : Type} {r : Res α} {k : α → Env → MH → Prop} (h : Wp r k) : ∃ a e m, r = .ok a e m ∧ k a e m := by
  cases r with
  | ok a e m => exact ⟨a, e, m, rfl, h⟩
  | err _ _ _ => exact h.elim
  | stuck => exact h.elim
theorem wp_bind {α β : Type} (r : Res α) (f : α → EM β) (k : β → Env → MH → Prop) : Wp (r.bind f) k = Wp r fun a e m => Wp (f a e m) k := by
  cases r <;> rfl
theorem Wp.mono {α : Type} {r : Res α} {k k' : α → Env → MH → Prop} (h : Wp r k) (w : ∀ a e m, k a e m → k' a e m) : Wp r k' := by
  cases r with
  | ok a e m => exact w a e m h
  | err _ _ _ => exact h.elim
  | stuck => exact h.elim
def loopI (I : Env → MH → Prop) (k : Fl → Env → MH → Prop) : Fl → Env → MH → Prop
  | .nx => I
  | .ct => I
  | .bk => k .nx
  | .ret s => k (.ret s)
@[simp] theorem loopI_n (I : Env → MH → Prop) (k : Fl → Env → MH → Prop) : loopI I k .nx = I := rfl
@[simp] theorem loopI_c (I : Env → MH → Prop) (k : Fl → Env → MH → Prop) : loopI I k .ct = I := rfl
@[simp] theorem loopI_b (I : Env → MH → Prop) (k : Fl → Env → MH → Prop) : loopI I k .bk = k .nx := rfl
@[simp] theorem loopI_r (I : Env → MH → Prop) (k : Fl → Env → MH → Prop) (s : SV) : loopI I k (.ret s) = k (.ret s) := rfl
/-- a walk over items made of a list, by what holds ahead of each turn -/
theorem wp_loop {α : Type} {t : TG} {b : EM Fl} (g : α → D) (I : List α → Env → MH → Prop) (k : Fl → Env → MH → Prop)
    (hs : ∀ x rest e m, I (x :: rest) e m → Wp ((tgR e m (t (g x) e)).bind fun _ => b) (loopI (I rest) k))
    (he : ∀ e m, I [] e m → k .nx e m) : ∀ L e m, I L e m → Wp (sForGo t b (L.map g) e m) k
  | [], e, m, h => he e m h
  | x :: L, e, m, h => by
    have h1 := hs x L e m h
    rw [List.map_cons, for_cons, ev_tg]
    rw [wp_bind] at h1 ⊢
    refine h1.mono fun _ e1 m1 h2 => ?_
    show Wp ((b e1 m1).bind _) k
    rw [wp_bind]
    refine Wp.mono h2 fun fl e2 m2 h3 => ?_
    cases fl with
    | nx => exact wp_loop g I k hs he L e2 m2 h3
    | ct => exact wp_loop g I k hs he L e2 m2 h3
    | bk => exact h3
    | ret s => exact h3
end PI
namespace PI
open PySem
/-! ### comprehensions with effects -/
theorem wp_lcGo {α : Type} {v : Nat} {x : EM D} (g : α → D) (I : List α → List D → Env → MH → Prop) (K : List D → Env → MH → Prop)
    (hs : ∀ a rest acc e m, I (a :: rest) acc e m → Wp (x (e.set v (some (.val (g a)))) m) fun y e' m' => I rest (acc ++ [y]) e' m')
    (he : ∀ acc e m, I [] acc e m → K acc e m) : ∀ (L : List α) (acc : List D) (e : Env) (m : MH), I L acc e m → Wp (lcGo (gNm v) tYes x [v] (L.map g) e m) fun ys e' m' => K (acc ++ ys) e' m'
  | [], acc, e, m, h => by
    show K (acc ++ []) e m
    rw [List.append_nil]
    exact he acc e m h
  | a :: L, acc, e, m, h => by
    have h1 := hs a L acc e m h
    rw [List.map_cons]
    unfold lcGo
    have e1 : gNm v (g a) (wipeE [v] e) = some (e.set v (some (.val (g a)))) := by
      show some (List.set (List.set e v none) v _) = _
      rw [List.set_set]
    rw [e1]
    simp only [yes_eq, bind_ok, if_true, bind_ap]
    rw [wp_bind]
    refine h1.mono fun y e2 m2 h2 => ?_
    rw [bind_ap, wp_bind]
    refine (wp_lcGo g I K hs he L (acc ++ [y]) e2 m2 h2).mono fun ys e3 m3 h3 => ?_
    show K (acc ++ (y :: ys)) e3 m3
    rw [List.append_assoc] at h3
    exact h3
/-- [x for v in it], x with effects -/
theorem wp_lc {α : Type} {v : Nat} {x : EM D} {it : EM (List D)} {L : List α} (g : α → D) (I : List α → List D → Env → MH → Prop) {K : SV → Env → MH → Prop} {e : Env} {m : MH}
    (hit : it e m = .ok (L.map g) e m) (ho : notOwn (e.getD v none) = true) (h0 : I L [] e m)
    (hs : ∀ a rest acc e m, I (a :: rest) acc e m → Wp (x (e.set v (some (.val (g a)))) m) fun y e' m' => I rest (acc ++ [y]) e' m')
    (he : ∀ acc e' m', I [] acc e' m' → K (.own (.lst acc)) (e'.set v (e.getD v none)) m') :
    Wp (eLc (gNm v) it tYes x [v] e m) K := by
  have h1 := wp_lcGo g I (fun acc e' m' => K (.own (.lst acc)) (e'.set v (e.getD v none)) m') hs he L [] e m h0
  obtain ⟨ys, e', m', h2, h3⟩ := h1.ex
  unfold eLc
  simp only [bind_ap, hit, bind_ok]
  rw [if_pos (show okOwn [v] e = true by unfold okOwn; rw [List.all_cons, ho]; rfl), h2]
  exact h3
end PI
/-! PILimD: values without exceptions, with shared objects of low numbers alone. -/
namespace PI
open PySem
mutual
/-- no exception within (x: they may be); shared objects below b alone -/
def D.lim (x : Bool) (b : Nat) : D → Bool
  | .obj n => decide (n < b)
  | .exn _ fs => x && limF x b fs
  | .ins _ fs => limF x b fs
  | .tup ds => limL x b ds
  | .tupw ds => limL x b ds
  | .lst ds => limL x b ds
  | .dic kvs => limK x b kvs
  | .non => true
  | .bl _ => true
  | .int _ => true
  | .str _ => true
  | .fn _ => true
  | .cls _ => true
  | .ty _ => true
def limL (x : Bool) (b : Nat) : List D → Bool
  | [] => true
  | d :: ds => d.lim x b && limL x b ds
def limK (x : Bool) (b : Nat) : List (D × D) → Bool
  | [] => true
  | (k, d) :: r => k.lim x b && d.lim x b && limK x b r
def limF (x : Bool) (b : Nat) : List (Nat × D) → Bool
  | [] => true
  | (_, d) :: r => d.lim x b && limF x b r
end
def MO.lim (x : Bool) (b : Nat) : MO → Bool
  | .lst ds => limL x b ds
  | .dic kvs => limK x b kvs
  | .ins _ fs => limF x b fs
/-- a value that hangs on no exception, no shared object -/
abbrev D.okR (d : D) : Bool := d.lim false 0
end PI
/-! PIExc: raise, try, isinstance of a caught exception. -/
namespace PI
open PySem
def sRaise (c : Nat) : EM Fl := fun e M => .err ⟨c, []⟩ e M
/-- try: body, except as e (slot i): return h(e) -/
def tryK (n i : Nat) (sub : Nat → Bool) (h : Xn → Option D) : Res Fl → Res Fl
  | .err x e M => if x.c < n then (if sub x.c then (if limF false 0 x.fs && decide (i < e.length) then (match h x with
    | some d => .ok (.ret (.val d)) e M
    | none => .stuck) else .stuck) else .err x e M) else .stuck
  | r => r
def sTryW (n i : Nat) (sub : Nat → Bool) (h : Xn → Option D) (body : EM Fl) : EM Fl := fun e M => tryK n i sub h (body e M)
/-- a handler by a def's meaning -/
def hotOf (f : FT) (x : Xn) : Option D := match f [.exn x.c x.fs] [] with
  | .ok (.val d) [] => if d.okR then some d else none
  | _ => none
def isK : D → D → Bool
  | .cls a, .cls b => a == b
  | .ty a, .ty b => a == b
  | _, _ => false
def D.isCls : D → Bool
  | .cls _ => true
  | .ty _ => true
  | _ => false
def inMro (l : List D) : D → Option Bool
  | .cls n => some (l.any (isK (.cls n)))
  | .ty n => some (l.any (isK (.ty n)))
  | .tup ks => if ks.all D.isCls then some (ks.any fun k => l.any (isK k)) else none
  | _ => none
def fIsX (mro : Nat → List D) : List D → Option SV
  | [.exn c _, k] => (inMro (mro c) k).map fun b => .val (.bl b)
  | _ => none
/-- a.split(b) -/
def fSplit : D → List D → Option SV
  | .str a, [.str b] => if (!b.isEmpty && b.all (· < 256)) && (decide (a.length + 2 ≤ 1000000) && (TL.spl b 0 [] a).all (fun p => decide (p.length ≤ 1000000))) then some (.own (.lst ((TL.spl b 0 [] a).map .str))) else none
  | _, _ => none
/-- the second argument is one of these -/
def okK (ks : List D) : D → Bool
  | .tup l => l.all fun d => ks.any fun k => isK k d
  | d => ks.any fun k => isK k d
/-- a field of the handled exception -/
def fXf (f : Nat) : D → Option SV
  | .exn _ fs => (fs.lookup f).map .val
  | _ => none
def fIsX2 (mro : Nat → List D) (n : Nat) (ks : List D) : List D → Option SV
  | [.exn c fs, k] => if okK ks k && decide (c < n) then fIsX mro [.exn c fs, k] else none
  | _ => none
end PI
/-! PIEvX: raise and try run by simp. -/
namespace PI
open PySem
section
variable (e : Env) (m : MH)
@[simp] theorem ev_raise (c : Nat) : sRaise c e m = .err ⟨c, []⟩ e m := rfl
@[simp] theorem ev_tryW (n i : Nat) (sub : Nat → Bool) (h : Xn → Option D) (b : EM Fl) : sTryW n i sub h b e m = tryK n i sub h (b e m) := rfl
@[simp] theorem tryK_ok (n i : Nat) (sub : Nat → Bool) (h : Xn → Option D) (a : Fl) : tryK n i sub h (.ok a e m) = .ok a e m := rfl
theorem tryK_err (n i : Nat) (sub : Nat → Bool) (h : Xn → Option D) (x : Xn) (d : D) (h1 : x.c < n) (h2 : sub x.c = true) (h3 : i < e.length) (h4 : h x = some d) (h5 : limF false 0 x.fs = true) : tryK n i sub h (.err x e m) = .ok (.ret (.val d)) e m := by
  simp [tryK, h1, h2, h3, h4, h5]
@[simp] theorem fr_err2 (x : Xn) : (Res.err x e m : Res Fl).fr = .err x m := rfl
end
end PI
/-! PIFun3: times, isinstance of several types, repr of all data, int of a truth, calls of values, tables, pairs of names. -/
namespace PI
open PySem
/-- list * n, tuple * n -/
def fMulX : D → D → Option SV
  | .lst xs, .int n => if -(2 ^ 63) ≤ n ∧ n < 2 ^ 63 ∧ xs.length * n.toNat ≤ 1000000 then some (.own (.lst (List.replicate n.toNat xs).flatten)) else none
  | .tup xs, .int n => if xs ≠ [] ∧ 1 ≤ n ∧ n ≤ 1000 ∧ xs.length ≤ 1000 then sv (.tup (List.replicate n.toNat xs).flatten) else none
  | x, y => fMul x y
/-- repr of any data -/
def reprOkA (p : PyData) : Bool := p.showable && decide (p.depth ≤ 60) && decide (p.shown.length ≤ 1000000)
def fReprA : List D → Option SV
  | [d] => match d with
    | .tupw _ => none
    | d => (dat d).bind fun p => if reprOkA p then sv (.str p.shown.cps.toList) else none
  | _ => none
def fIntB : List D → Option SV
  | [.bl b] => sv (.int (if b then 1 else 0))
  | [.int i] => sv (.int i)
  | _ => none
/-- list(range(n)) -/
def eListR (es : EM (List PV)) : EM SV := EM.bind (itR1 es) fun ds => EM.pure (.own (.lst ds))
/-- a value called -/
def eCallV (tbl : Nat → Option FT) (f : EM SV) (es : EM (List D)) : EM SV := EM.bind f fun s => match s with
  | .val (.fn i) => match tbl i with
    | some F => EM.bind es fun ds e m => (F ds m).to e
    | none => fun _ _ => .stuck
  | _ => fun _ _ => .stuck
/-- a table of the text by words: the object .cls (1000 + i) -/
def tabGet (tb : List (List Nat × D)) (k : List Nat) : Option D := (tb.find? fun p => p.1 == k).map (·.2)
def fIxT (tbs : List (List (List Nat × D))) : D → D → Option SV
  | .cls c, .str z => if 1000 ≤ c then (tbs[c - 1000]?).bind fun t => (tabGet t z).map .val else none
  | x, y => fIx x y
def fInT (tbs : List (List (List Nat × D))) : D → D → Option Bool
  | .str z, .cls c => if 1000 ≤ c then (tbs[c - 1000]?).map fun t => (tabGet t z).isSome else none
  | x, y => fIn x y
def fNotInT (tbs : List (List (List Nat × D))) (x y : D) : Option Bool := (fInT tbs x y).map (!·)
/-- x, y = a, b: b may be an object of one's own -/
def sPar (i j : Nat) (a : EM D) (b : EM SV) : EM Fl := EM.bind a fun d => EM.bind b fun s e m => .ok .nx (setS (setS e i (.val d)) j s) m
/-- x, y = a, b: a may be an object of one's own, b is a constant -/
def sParC (i j : Nat) (a : EM SV) (d : D) : EM Fl := EM.bind a fun s e m => .ok .nx (setS (setS e i s) j (.val d)) m
/-- {k: x}, x a name that holds a value -/
def dicN (k : Int) (e : Env) (m : MH) : Option SV → Res SV
  | some (.val d) => .ok (.own (.dic [(.int k, d)])) e m
  | _ => .stuck
def eDicN (k : Int) (i : Nat) : EM SV := fun e m => dicN k e m (e.getD i none)
end PI
namespace PI
end PI
namespace PI
/-- x, y = a, [] -/
def sParL (i j : Nat) (a : EM SV) : EM Fl := EM.bind a fun s e m => .ok .nx (setS (setS e i s) j (.own (.lst []))) m
end PI
/-! PILib: the built-in operators on values of a known kind; dicts with numbers as keys; sorted numbers. -/
namespace PI
open PySem
section
variable {i j : Int} {a b : List Nat} {x y : List D} {n : Nat}
@[simp] theorem fAdd_i : fAdd (.int i) (.int j) = some (.val (.int (i + j))) := rfl
@[simp] theorem fSub_i : fSub (.int i) (.int j) = some (.val (.int (i - j))) := rfl
theorem fMul_l (h : -(2 ^ 64) < i ∧ i < 2 ^ 64) : fMul (.int i) (.int j) = some (.val (.int (i * j))) := by simp only [fMul, small, h, and_self, decide_true, Bool.true_or, if_true, sv]
theorem fMul_r (h : -(2 ^ 64) < j ∧ j < 2 ^ 64) : fMul (.int i) (.int j) = some (.val (.int (i * j))) := by simp only [fMul, small, h, and_self, decide_true, Bool.or_true, if_true, sv]
theorem fDiv_i (h : 0 < j) (h2 : j < 10 ^ 30) : fDiv (.int i) (.int j) = some (.val (.int (i / j))) := by simp only [fDiv, h, h2, and_self, if_true, sv]
theorem fMod_i (h : 0 < j) : fMod (.int i) (.int j) = some (.val (.int (i % j))) := by simp only [fMod, h, if_true, sv]
@[simp] theorem fNeg_i : fNeg (.int i) = some (.val (.int (-i))) := rfl
theorem fAdd_l (h : x.length + y.length ≤ 1000000) : fAdd (.lst x) (.lst y) = some (.own (.lst (x ++ y))) := by simp [fAdd, okLen, h]
@[simp] theorem fEq_i : fEq (.int i) (.int j) = some (i == j) := rfl
@[simp] theorem fEq_s : fEq (.str a) (.str b) = some (a == b) := rfl
@[simp] theorem fEq_b {a b : Bool} : fEq (.bl a) (.bl b) = some (a == b) := rfl
@[simp] theorem fNe_d {x y : D} : fNe x y = (fEq x y).map (!·) := rfl
@[simp] theorem fLt_i : fLt (.int i) (.int j) = some (decide (i < j)) := rfl
@[simp] theorem fLe_i : fLe (.int i) (.int j) = some (decide (i ≤ j)) := rfl
@[simp] theorem fGt_i : fGt (.int i) (.int j) = some (decide (j < i)) := rfl
@[simp] theorem fGe_i : fGe (.int i) (.int j) = some (decide (j ≤ i)) := rfl
@[simp] theorem fLen_l : fLen [.lst x] = some (.val (.int x.length)) := rfl
@[simp] theorem fLen_t : fLen [.tup x] = some (.val (.int x.length)) := rfl
@[simp] theorem fLen_tw : fLen [.tupw x] = some (.val (.int x.length)) := rfl
@[simp] theorem fLen_s : fLen [.str a] = some (.val (.int a.length)) := rfl
@[simp] theorem fMin_i : fMin [.int i, .int j] = some (.val (.int (min i j))) := by
  show some (SV.val (.int (if j < i then j else i))) = _
  congr 3
  split <;> omega
@[simp] theorem fMax_i : fMax [.int i, .int j] = some (.val (.int (max i j))) := by
  show some (SV.val (.int (if j > i then j else i))) = _
  congr 3
  split <;> omega
@[simp] theorem fList_l : fList [.lst x] = some (.own (.lst x)) := rfl
@[simp] theorem fList_t : fList [.tup x] = some (.own (.lst x)) := rfl
@[simp] theorem fTuple_l : fTuple [.lst x] = some (.val (.tup x)) := rfl
@[simp] theorem fTuple_t : fTuple [.tup x] = some (.val (.tup x)) := rfl
@[simp] theorem fIx_l : fIx (.lst x) (.int i) = (atD x i).map .val := rfl
@[simp] theorem fIx_t : fIx (.tup x) (.int i) = (atD x i).map .val := rfl
@[simp] theorem fIx_tw : fIx (.tupw x) (.int i) = (atD x i).map .val := rfl
@[simp] theorem fCut_l {lo hi : Option Int} : fCut (.lst x) lo hi = some (.own (.lst (cutD x lo hi))) := rfl
@[simp] theorem fCut_t {lo hi : Option Int} : fCut (.tup x) lo hi = some (.val (.tup (cutD x lo hi))) := rfl
@[simp] theorem fCut_s {lo hi : Option Int} : fCut (.str a) lo hi = some (.val (.str (cutD a lo hi))) := rfl
@[simp] theorem pLst_l {d : D} : pLst (.lst x) (.int i) d = (ixD x.length i).map fun j => .lst (x.set j d) := rfl
theorem atD_nat {α : Type} (xs : List α) (k : Nat) (h : k < xs.length) : atD xs (k : Int) = some xs[k] := by
  unfold atD ixD
  rw [if_pos (by omega), if_pos (by omega)]
  simp [h]
theorem atD_int {α : Type} (xs : List α) (i : Int) (h : 0 ≤ i) (h2 : i < xs.length) : ∃ y, atD xs i = some y ∧ y ∈ xs := by
  obtain ⟨k, rfl⟩ := Int.eq_ofNat_of_zero_le h
  have hk : k < xs.length := by omega
  exact ⟨xs[k], atD_nat xs k hk, List.getElem_mem hk⟩
@[simp] theorem atD_0 {α : Type} (a : α) (xs : List α) : atD (a :: xs) 0 = some a := by
  have := atD_nat (a :: xs) 0 (by simp)
  simpa using this
@[simp] theorem atD_1 {α : Type} (a b : α) (xs : List α) : atD (a :: b :: xs) 1 = some b := by
  have := atD_nat (a :: b :: xs) 1 (by simp)
  simpa using this
@[simp] theorem atD_2 {α : Type} (a b c : α) (xs : List α) : atD (a :: b :: c :: xs) 2 = some c := by
  have := atD_nat (a :: b :: c :: xs) 2 (by simp)
  simpa using this
end
/-! ### kinds -/
def D.isInt : D → Bool
  | .int _ => true
  | _ => false
def D.isBl : D → Bool
  | .bl _ => true
  | _ => false
def D.isStr : D → Bool
  | .str _ => true
  | _ => false
def D.isLst : D → Bool
  | .lst _ => true
  | _ => false
/-- a kind is known -/
def D.kd (d : D) : Bool := (tyD d).isSome
theorem kd_dic {kvs : List (D × D)} (h : (D.dic kvs).kd = true) : tyD (.dic kvs) = some "dict" := by
  simp only [D.kd, tyD] at h ⊢
  split
  · rfl
  · rename_i n
    rw [if_neg n] at h
    cases h
section
variable {d : D} (h : d.kd = true)
include h
theorem isi_int : fIsi [d, .ty "int"] = some (.val (.bl (d.isInt || d.isBl))) := by
  cases d with
  | dic kvs => show (tyD (.dic kvs)).bind _ = _; rw [kd_dic h]; rfl
  | ins _ _ | exn _ _ | obj _ | fn _ | cls _ | ty _ => cases h
  | _ => rfl
theorem isi_bool : fIsi [d, .ty "bool"] = some (.val (.bl d.isBl)) := by
  cases d with
  | dic kvs => show (tyD (.dic kvs)).bind _ = _; rw [kd_dic h]; rfl
  | ins _ _ | exn _ _ | obj _ | fn _ | cls _ | ty _ => cases h
  | _ => rfl
theorem isi_str : fIsi [d, .ty "str"] = some (.val (.bl d.isStr)) := by
  cases d with
  | dic kvs => show (tyD (.dic kvs)).bind _ = _; rw [kd_dic h]; rfl
  | ins _ _ | exn _ _ | obj _ | fn _ | cls _ | ty _ => cases h
  | _ => rfl
theorem isi_list : fIsi [d, .ty "list"] = some (.val (.bl d.isLst)) := by
  cases d with
  | dic kvs => show (tyD (.dic kvs)).bind _ = _; rw [kd_dic h]; rfl
  | ins _ _ | exn _ _ | obj _ | fn _ | cls _ | ty _ => cases h
  | _ => rfl
end
/-! ### lists of numbers, of truths -/
@[simp] theorem blsD_map {α : Type} (f : α → Bool) : ∀ xs : List α, blsD (xs.map fun x => .bl (f x)) = some (xs.map f)
  | [] => rfl
  | x :: xs => by
    show (blsD (xs.map fun x => .bl (f x))).map _ = _
    rw [blsD_map f xs] <;> rfl
theorem fAll_map {α : Type} (f : α → Bool) (xs : List α) : fAll [.lst (xs.map fun x => .bl (f x))] = some (.val (.bl (xs.all f))) := by
  show (blsD _).map _ = _
  rw [blsD_map]
  show some (SV.val (.bl ((xs.map f).all id))) = _
  rw [List.all_map] <;> rfl
@[simp] theorem intsD_map {α : Type} (f : α → Int) : ∀ xs : List α, intsD (xs.map fun x => .int (f x)) = some (xs.map f)
  | [] => rfl
  | x :: xs => by
    show (intsD (xs.map fun x => .int (f x))).map _ = _
    rw [intsD_map f xs] <;> rfl
def lI (ns : List Int) : List D := ns.map fun n => .int n
/-! ### data -/
theorem datL_map {α : Type} (f : α → D) (g : α → PyData) : ∀ (xs : List α), (∀ x ∈ xs, dat (f x) = some (g x)) → datL (xs.map f) = some (xs.map g)
  | [], _ => rfl
  | x :: xs, h => by
    show (dat (f x)).bind _ = _
    rw [h x (List.mem_cons_self ..)]
    show (datL (xs.map f)).map _ = _
    rw [datL_map f g xs fun y hy => h y (List.mem_cons_of_mem _ hy)] <;> rfl
@[simp] theorem lI_len (ns : List Int) : (lI ns).length = ns.length := List.length_map ..
end PI
namespace PI
open PySem
/-- things: of a known kind, no shared object -/
def D.thg (d : D) : Bool := d.kd && d.noObj
theorem now_thg {d : D} (h : d.thg = true) (e : Env) (m : MH) : (PV.v d).now e m = .ok d e m := now_v e m (by simp only [D.thg, Bool.and_eq_true] at h; exact h.2)
theorem kd_thg {d : D} (h : d.thg = true) : d.kd = true := by simp only [D.thg, Bool.and_eq_true] at h; exact h.1
end PI
namespace PI
open PySem
@[simp] theorem fMinD_i {i j : Int} : fMinD [.int i, .int j] = some (.val (.int (min i j))) := by
  unfold fMinD
  rw [fMin_i]
@[simp] theorem ev_M2 (f1 f2 : D → List D → Option SV) (a : EM PV) (es : EM (List PV)) (e : Env) (m : MH) : eM2 f1 f2 a es e m = (a e m).bind fun p => EM.bind p.now fun d0 => if Ty.list.has d0 then
  EM.bind es fun ps => EM.bind p.now fun d => EM.bind (nowL ps) fun ds => EM.lift (f1 d ds) else if Ty.tuple.has d0 then
  EM.bind es fun ps => EM.bind p.now fun d => EM.bind (nowL ps) fun ds => EM.lift (f2 d ds) else fun _ _ => .stuck := rfl
@[simp] theorem has_lt (x : List D) : Ty.list.has (.tup x) = false := rfl
@[simp] theorem ev_itArgs (f : List D → Option (List D)) (es : EM (List D)) (e : Env) (m : MH) : itArgs f es e m = (es e m).bind fun ds => EM.lift (f ds) := rfl
@[simp] theorem enumOf_l (xs : List D) : enumOf [.lst xs] = some (enumG 0 xs) := rfl
@[simp] theorem enumOf_t (xs : List D) : enumOf [.tup xs] = some (enumG 0 xs) := rfl
@[simp] theorem zipOf_l (xs ys : List D) : zipOf [.lst xs, .lst ys] = some (zipG xs ys) := rfl
@[simp] theorem zipOf_t (xs ys : List D) : zipOf [.tup xs, .tup ys] = some (zipG xs ys) := rfl
end PI
/-! PIRepr: what repr gives, and that it gives it. -/
namespace PI
open PySem
mutual
/-- what may be shown: no objects, numbers of at most 44 figures -/
def D.rp : D → Bool
  | .non => true
  | .bl _ => true
  | .int i => decide (i.natAbs < 10 ^ 44)
  | .str cs => cs.all fun c => decide (c < 16 ^ 8)
  | .tup xs => rpL xs
  | .tupw xs => rpL xs
  | .lst xs => rpL xs
  | .dic kvs => rpK kvs
  | _ => false
def rpL : List D → Bool
  | [] => true
  | x :: xs => x.rp && rpL xs
def rpK : List (D × D) → Bool
  | [] => true
  | (k, v) :: r => k.flatKey && k.rp && v.rp && rpK r
end
mutual
/-- a bound of how long it is -/
def D.wt : D → Nat
  | .int i => if i.natAbs < 10 ^ 4 then 14 else 150
  | .str cs => cs.length
  | .tup xs => wtL xs
  | .tupw xs => wtL xs
  | .lst xs => wtL xs
  | .dic kvs => wtK kvs
  | _ => 0
def wtL : List D → Nat
  | [] => 0
  | x :: xs => x.wt + 1 + wtL xs
def wtK : List (D × D) → Nat
  | [] => 0
  | (k, v) :: r => k.wt + v.wt + 2 + wtK r
end
mutual
def D.dp : D → Nat
  | .tup xs => dpL xs + 1
  | .tupw xs => dpL xs + 1
  | .lst xs => dpL xs + 1
  | .dic kvs => dpK kvs + 1
  | _ => 0
def dpL : List D → Nat
  | [] => 0
  | x :: xs => max x.dp (dpL xs)
def dpK : List (D × D) → Nat
  | [] => 0
  | (k, v) :: r => max (max k.dp v.dp) (dpK r)
end
mutual
def D.hasD : D → Bool
  | .tup xs => hasDL xs
  | .tupw xs => hasDL xs
  | .lst xs => hasDL xs
  | .dic kvs => true
  | _ => false
def hasDL : List D → Bool
  | [] => false
  | x :: xs => x.hasD || hasDL xs
end
mutual
def D.noL : D → Bool
  | .tup xs => noLL xs
  | .tupw xs => noLL xs
  | .lst xs => false
  | .dic kvs => noLK kvs
  | _ => true
def noLL : List D → Bool
  | [] => true
  | x :: xs => x.noL && noLL xs
def noLK : List (D × D) → Bool
  | [] => true
  | (k, v) :: r => k.noL && v.noL && noLK r
end
structure Rp (d : D) (p : PyData) : Prop where
  e : dat d = some p
  sh : p.showable = true
  lf : p.leavesShort 45 = true
  w : p.weight ≤ d.wt
  dp : p.depth = d.dp
  hd : p.hasDict = d.hasD
  nl : noLst p = d.noL
structure RpL (ds : List D) (ps : List PyData) : Prop where
  e : datL ds = some ps
  sh : PyData.showableAll ps = true
  lf : PyData.leavesShortAll 45 ps = true
  w : PyData.weightAll ps ≤ wtL ds
  dp : PyData.depthAll ps = dpL ds
  hd : PyData.hasDictAll ps = hasDL ds
  nl : noLstL ps = noLL ds
structure RpK (ds : List (D × D)) (ps : List (PyData × PyData)) : Prop where
  e : datK ds = some ps
  sh : PyData.showableKv ps = true
  lf : PyData.leavesShortKv 45 ps = true
  w : PyData.weightKv ps ≤ wtK ds
  dp : PyData.depthKv ps = dpK ds
  nl : noLstK ps = noLK ds
theorem log_lt {n k : Nat} (hk : 0 < k) (h : n < 2 ^ k) : n.log2 < k := by
  by_cases h0 : n = 0
  · subst h0; simpa using hk
  · exact (Nat.log2_lt h0).mpr h
theorem rp_int (i : Int) (h : i.natAbs < 10 ^ 44) : Rp (.int i) (.int i) := by
  have e1 : i.natAbs.log2 < 147 := log_lt (by decide) (Nat.lt_trans h (by decide))
  refine ⟨rfl, ?_, ?_, ?_, ?_, ?_, ?_⟩
  · simp only [PyData.showable, decide_eq_true_eq]
    omega
  · simp only [PyData.leavesShort, decide_eq_true_eq]
    have e := int_text_length_le10 (k := 44) (by decide) h
    show (Str.ofString (toString i)).length ≤ 45
    rw [ofString_length]
    exact e
  · simp only [PyData.weight, D.wt]
    split
    · split <;> omega
    · split
      · rename_i h4
        have : i.natAbs.log2 < 14 := log_lt (by decide) (Nat.lt_trans h4 (by decide))
        omega
      · omega
  · simp only [PyData.depth, D.dp]
  · simp only [PyData.hasDict, D.hasD]
  · simp only [noLst, D.noL]
theorem rp_str (cs : List Nat) (h : (cs.all fun c => decide (c < 16 ^ 8)) = true) : Rp (.str cs) (.str ⟨cs.toArray⟩) := by
  refine ⟨rfl, ?_, ?_, ?_, ?_, ?_, ?_⟩
  · simp only [PyData.showable]
  · simpa only [PyData.leavesShort] using h
  · simp only [PyData.weight, D.wt, List.size_toArray]
    omega
  · simp only [PyData.depth, D.dp]
  · simp only [PyData.hasDict, D.hasD]
  · simp only [noLst, D.noL]
mutual
theorem rp_of : ∀ d : D, d.rp = true → ∃ p, Rp d p
  | .non, _ => ⟨.none, rfl, by simp only [PyData.showable], by simp only [PyData.leavesShort], by simp only [PyData.weight, D.wt]; omega, by simp only [PyData.depth, D.dp], by simp only [PyData.hasDict, D.hasD], by simp only [noLst, D.noL]⟩
  | .bl b, _ => ⟨.bool b, rfl, by simp only [PyData.showable], by simp only [PyData.leavesShort], by simp only [PyData.weight, D.wt]; omega, by simp only [PyData.depth, D.dp], by simp only [PyData.hasDict, D.hasD], by simp only [noLst, D.noL]⟩
  | .int i, h => ⟨.int i, rp_int i (by simpa only [D.rp, decide_eq_true_eq] using h)⟩
  | .str cs, h => ⟨.str ⟨cs.toArray⟩, rp_str cs (by simpa only [D.rp] using h)⟩
  | .tup xs, h => by
    obtain ⟨ps, q⟩ := rpL_of xs (by simpa only [D.rp] using h)
    refine ⟨.tuple ps, ?_, ?_, ?_, ?_, ?_, ?_, ?_⟩
    · simp only [dat, q.e, Option.map_some]
    · simpa only [PyData.showable] using q.sh
    · simpa only [PyData.leavesShort] using q.lf
    · simpa only [PyData.weight, D.wt] using q.w
    · simp only [PyData.depth, D.dp, q.dp]
    · simpa only [PyData.hasDict, D.hasD] using q.hd
    · simpa only [noLst, D.noL] using q.nl
  | .tupw xs, h => by
    obtain ⟨ps, q⟩ := rpL_of xs (by simpa only [D.rp] using h)
    refine ⟨.tuple ps, ?_, ?_, ?_, ?_, ?_, ?_, ?_⟩
    · simp only [dat, q.e, Option.map_some]
    · simpa only [PyData.showable] using q.sh
    · simpa only [PyData.leavesShort] using q.lf
    · simpa only [PyData.weight, D.wt] using q.w
    · simp only [PyData.depth, D.dp, q.dp]
    · simpa only [PyData.hasDict, D.hasD] using q.hd
    · simpa only [noLst, D.noL] using q.nl
  | .lst xs, h => by
    obtain ⟨ps, q⟩ := rpL_of xs (by simpa only [D.rp] using h)
    refine ⟨.list ps, ?_, ?_, ?_, ?_, ?_, ?_, ?_⟩
    · simp only [dat, q.e, Option.map_some]
    · simpa only [PyData.showable] using q.sh
    · simpa only [PyData.leavesShort] using q.lf
    · simpa only [PyData.weight, D.wt] using q.w
    · simp only [PyData.depth, D.dp, q.dp]
    · simpa only [PyData.hasDict, D.hasD] using q.hd
    · simp only [noLst, D.noL]
  | .dic kvs, h => by
    obtain ⟨ps, q⟩ := rpK_of kvs (by simpa only [D.rp] using h)
    refine ⟨.dict ps, ?_, ?_, ?_, ?_, ?_, ?_, ?_⟩
    · simp only [dat, q.e, Option.map_some]
    · simpa only [PyData.showable] using q.sh
    · simpa only [PyData.leavesShort] using q.lf
    · simpa only [PyData.weight, D.wt] using q.w
    · simp only [PyData.depth, D.dp, q.dp]
    · simp only [PyData.hasDict, D.hasD]
    · simpa only [noLst, D.noL] using q.nl
  | .ins _ _, h => by simp only [D.rp] at h; cases h
  | .exn _ _, h => by simp only [D.rp] at h; cases h
  | .obj _, h => by simp only [D.rp] at h; cases h
  | .fn _, h => by simp only [D.rp] at h; cases h
  | .cls _, h => by simp only [D.rp] at h; cases h
  | .ty _, h => by simp only [D.rp] at h; cases h
theorem rpL_of : ∀ ds : List D, rpL ds = true → ∃ ps, RpL ds ps
  | [], _ => ⟨[], rfl, by simp only [PyData.showableAll], by simp only [PyData.leavesShortAll], by simp only [PyData.weightAll, wtL]; omega, by simp only [PyData.depthAll, dpL], by simp only [PyData.hasDictAll, hasDL], by simp only [noLstL, noLL]⟩
  | d :: ds, h => by
    simp only [rpL, Bool.and_eq_true] at h
    obtain ⟨p, q⟩ := rp_of d h.1
    obtain ⟨ps, qs⟩ := rpL_of ds h.2
    refine ⟨p :: ps, ?_, ?_, ?_, ?_, ?_, ?_, ?_⟩
    · simp only [datL, q.e, qs.e, Option.bind_some, Option.map_some]
    · simp only [PyData.showableAll, q.sh, qs.sh, Bool.and_self]
    · simp only [PyData.leavesShortAll, q.lf, qs.lf, Bool.and_self]
    · simp only [PyData.weightAll, wtL]
      have := q.w
      have := qs.w
      omega
    · simp only [PyData.depthAll, dpL, q.dp, qs.dp]
    · simp only [PyData.hasDictAll, hasDL, q.hd, qs.hd]
    · simp only [noLstL, noLL, q.nl, qs.nl]
theorem rpK_of : ∀ ds : List (D × D), rpK ds = true → ∃ ps, RpK ds ps
  | [], _ => ⟨[], rfl, by simp only [PyData.showableKv], by simp only [PyData.leavesShortKv], by simp only [PyData.weightKv, wtK]; omega, by simp only [PyData.depthKv, dpK], by simp only [noLstK, noLK]⟩
  | (k, v) :: ds, h => by
    simp only [rpK, Bool.and_eq_true] at h
    obtain ⟨p, q⟩ := rp_of k h.1.1.2
    obtain ⟨p2, q2⟩ := rp_of v h.1.2
    obtain ⟨ps, qs⟩ := rpK_of ds h.2
    refine ⟨(p, p2) :: ps, ?_, ?_, ?_, ?_, ?_, ?_⟩
    · simp only [datK, h.1.1.1, if_true, q.e, q2.e, qs.e, Option.bind_some, Option.map_some]
    · simp only [PyData.showableKv, q.sh, q2.sh, qs.sh, Bool.and_self]
    · simp only [PyData.leavesShortKv, q.lf, q2.lf, qs.lf, Bool.and_self]
    · simp only [PyData.weightKv, wtK]
      have := q.w
      have := q2.w
      have := qs.w
      omega
    · simp only [PyData.depthKv, dpK, q.dp, q2.dp, qs.dp]
    · simp only [noLstK, noLK, q.nl, q2.nl, qs.nl]
end
/-- a value's text -/
def textOf (d : D) : List Nat := ((dat d).getD .none).shown.cps.toList
end PI
namespace PI
open PySem
section
variable (e : Env) (m : MH)
@[simp] theorem ev_listR (es : EM (List PV)) : eListR es e m = (itR1 es e m).bind fun ds => EM.pure (.own (.lst ds)) := rfl
def callV (tbl : Nat → Option FT) (es : EM (List D)) : SV → EM SV
  | .val (.fn i) => match tbl i with
    | some F => EM.bind es fun ds e m => (F ds m).to e
    | none => fun _ _ => .stuck
  | _ => fun _ _ => .stuck
@[simp] theorem ev_callV (tbl : Nat → Option FT) (f : EM SV) (es : EM (List D)) : eCallV tbl f es e m = (f e m).bind (callV tbl es) := by
  show (f e m).bind _ = _
  congr 1
@[simp] theorem ev_par (i j : Nat) (a : EM D) (b : EM SV) : sPar i j a b e m = (a e m).bind fun d => EM.bind b fun s e m => .ok .nx ((e.set i (some (.val d))).set j (some s)) m := rfl
@[simp] theorem ev_parC (i j : Nat) (a : EM SV) (d : D) : sParC i j a d e m = (a e m).bind fun s e m => .ok .nx ((e.set i (some s)).set j (some (.val d))) m := rfl
@[simp] theorem ev_parL (i j : Nat) (a : EM SV) : sParL i j a e m = (a e m).bind fun s e m => .ok .nx ((e.set i (some s)).set j (some (.own (.lst [])))) m := rfl
@[simp] theorem ev_dicN (k : Int) (i : Nat) : eDicN k i e m = dicN k e m (e.getD i none) := rfl
@[simp] theorem dicN_v (k : Int) (d : D) : dicN k e m (some (.val d)) = .ok (.own (.dic [(.int k, d)])) e m := rfl
end
@[simp] theorem fIxT_0 (t : List (List Nat × D)) (r : List (List (List Nat × D))) (z : List Nat) : fIxT (t :: r) (.cls 1000) (.str z) = (tabGet t z).map .val := rfl
@[simp] theorem fIxT_1 (t t1 : List (List Nat × D)) (r : List (List (List Nat × D))) (z : List Nat) : fIxT (t :: t1 :: r) (.cls 1001) (.str z) = (tabGet t1 z).map .val := rfl
@[simp] theorem fInT_0 (t : List (List Nat × D)) (r : List (List (List Nat × D))) (z : List Nat) : fInT (t :: r) (.str z) (.cls 1000) = some (tabGet t z).isSome := rfl
@[simp] theorem fInT_1 (t t1 : List (List Nat × D)) (r : List (List (List Nat × D))) (z : List Nat) : fInT (t :: t1 :: r) (.str z) (.cls 1001) = some (tabGet t1 z).isSome := rfl
@[simp] theorem fNotInT_d (tbs : List (List (List Nat × D))) (x y : D) : fNotInT tbs x y = (fInT tbs x y).map (!·) := rfl
@[simp] theorem fIntB_b (b : Bool) : fIntB [.bl b] = some (.val (.int (if b then 1 else 0))) := rfl
@[simp] theorem fMulX_i (i j : Int) : fMulX (.int i) (.int j) = fMul (.int i) (.int j) := rfl
/-! repr of any data -/
def D.rpOkA (d : D) : Bool := d.rp && decide (d.wt ≤ 20000) && decide (d.dp ≤ 60)
theorem rpOkA_dat {d : D} (h : d.rpOkA = true) : ∃ p, dat d = some p ∧ reprOkA p = true := by
  simp only [D.rpOkA, Bool.and_eq_true, decide_eq_true_eq] at h
  obtain ⟨p, q⟩ := rp_of d h.1.1
  refine ⟨p, q.e, ?_⟩
  have h1 := PyData.shown_le 45 (by decide) p q.lf
  have h2 := q.w
  simp only [reprOkA, q.sh, q.dp, Bool.true_and, Bool.and_eq_true, decide_eq_true_eq]
  exact ⟨h.2, by omega⟩
theorem fReprA_of {d : D} (h : d.rpOkA = true) (ht : ∀ l, d ≠ .tupw l) : fReprA [d] = some (.val (.str (textOf d))) := by
  obtain ⟨p, e, ok⟩ := rpOkA_dat h
  have e1 : fReprA [d] = (dat d).bind fun p => if reprOkA p then sv (.str p.shown.cps.toList) else none := by
    cases d <;> first | rfl | exact absurd rfl (ht _)
  rw [e1]
  unfold textOf
  rw [e]
  simp [ok, sv]
end PI
/-! PICls: instances of own classes: fields, methods, making. -/
namespace PI
open PySem
/-- o.f -/
def fFld (c f : Nat) : D → Option SV
  | .ins c' fs => if c' = c then (fs.lookup f).map .val else none
  | _ => none
def putFD (f : Nat) (v : D) : List (Nat × D) → List (Nat × D)
  | [] => [(f, v)]
  | (g, x) :: r => if g = f then (g, v) :: r else (g, x) :: putFD f v r
def mFldP (c f : Nat) (d : D) : MO → Option MO
  | .ins c' fs => if c' = c ∧ fs.length < 900 then some (.ins c (putFD f d fs)) else none
  | _ => none
/-- o.f = v -/
def sFldP (c f : Nat) (v : EM D) (o : EM PV) : EM Fl := EM.bind v fun d => EM.bind o fun p => EM.bind (p.chg fun u => (mFldP c f d u).map fun u' => (.non, u')) fun _ => EM.pure .nx
/-- o.m(..), m a method of the class c -/
def eMeth (c : Nat) (f : FT) (dd : List D) (a : EM PV) (es : EM (List D)) : EM SV := EM.bind a fun p => EM.bind p.now fun d0 => match p, d0 with
  | .v d, .ins c' _ => if c' = c then EM.bind es fun ds e m => (f (d :: (ds ++ dd)) m).to e else fun _ _ => .stuck
  | _, _ => fun _ _ => .stuck
def eMethK (c : Nat) (f : FT) (ss : List Src) (dd : List D) (a : EM PV) (es kws : EM (List D)) : EM SV := EM.bind a fun p => EM.bind p.now fun d0 => match p, d0 with
  | .v d, .ins c' _ => if c' = c then EM.bind es fun ds => EM.bind kws fun zs e m => (f (d :: pickL ss ds dd zs) m).to e else fun _ _ => .stuck
  | _, _ => fun _ _ => .stuck
/-- what is made stands behind the shared objects that were -/
noncomputable def finI (m m' : MH) : Option MO := open Classical in if m'.take m.length = m ∧ m'.length = m.length + 1 then m'[m.length]? else none
/-- C(..), its instances are never changed behind their __init__ -/
noncomputable def mkI (c : Nat) (f : FT) : FT := fun ds m => match f (.obj m.length :: ds) (m ++ [.ins c []]) with
  | .ok (.val .non) m' => match finI m m' with
    | some o => if o.lim true m.length then .ok (.own o) m else .stuck
    | none => .stuck
  | .err x m' => match finI m m' with
    | some _ => if limF true m.length x.fs then .err x m else .stuck
    | none => .stuck
  | _ => .stuck
theorem finI_mk (m : MH) (o : MO) : finI m (m ++ [o]) = some o := by
  unfold finI
  rw [if_pos ⟨by simp, by simp⟩]
  simp
theorem finI_some {m m' : MH} {o : MO} (h : finI m m' = some o) : m' = m ++ [o] := by
  unfold finI at h
  split at h
  · rename_i hc
    obtain ⟨h1, h2⟩ := hc
    obtain ⟨hlt, e⟩ := List.getElem?_eq_some_iff.mp h
    rw [← List.take_append_drop m.length m', h1]
    congr 1
    have : (m'.drop m.length).length = 1 := by rw [List.length_drop]; omega
    obtain ⟨a, ha⟩ := List.length_eq_one_iff.mp this
    rw [ha]
    have : (m'.drop m.length)[0]? = some o := by rw [List.getElem?_drop]; exact h
    rw [ha] at this
    simpa using this
  · cases h
/-! isinstance with own classes -/
/-- what isinstance asks of a class: a built-in, or an own one below n -/
def fIsU (lo n : Nat) : List D → Option SV
  | [.ins c _, .cls k] => if (lo ≤ c ∧ c < n) ∧ lo ≤ k ∧ k < n then some (.val (.bl (c == k))) else none
  | [.ins c _, .ty T] => if (lo ≤ c ∧ c < n) ∧ (T = "int" ∨ T = "bool" ∨ T = "str" ∨ T = "tuple" ∨ T = "list" ∨ T = "dict") then some (.val (.bl false)) else none
  | [d, .cls k] => if lo ≤ k ∧ k < n then (tyD d).map fun _ => .val (.bl false) else none
  | ds => fIsi ds
end PI
/-! PICls2: text of values, text * n, isinstance with own classes. -/
namespace PI
open PySem
/-- str(x) of data -/
def fStrA : List D → Option SV
  | [.str cs] => sv (.str cs)
  | ds => fReprA ds
/-- text * n too -/
def fMulS : D → D → Option SV
  | .str cs, .int n => if 2 ≤ n ∧ n ≤ 1000 ∧ cs ≠ [] ∧ cs.length ≤ 1000 then sv (.str (List.replicate n.toNat cs).flatten) else none
  | x, y => fMulX x y
end PI
/-! PIEvC: classes run by simp. -/
namespace PI
open PySem
section
variable (e : Env) (m : MH)
def methK (c : Nat) (f : FT) (dd : List D) (es : EM (List D)) (p : PV) : D → EM SV := fun d0 => match p, d0 with
  | .v d, .ins c' _ => if c' = c then EM.bind es fun ds e m => (f (d :: (ds ++ dd)) m).to e else fun _ _ => .stuck
  | _, _ => fun _ _ => .stuck
@[simp] theorem ev_meth (c : Nat) (f : FT) (dd : List D) (a : EM PV) (es : EM (List D)) : eMeth c f dd a es e m = (a e m).bind fun p => EM.bind p.now (methK c f dd es p) := by
  show (a e m).bind _ = _
  congr 1
@[simp] theorem methK_ins (c : Nat) (f : FT) (dd : List D) (es : EM (List D)) (d : D) (fs : List (Nat × D)) : methK c f dd es (.v d) (.ins c fs) e m = (es e m).bind fun ds e m => (f (d :: (ds ++ dd)) m).to e := by
  simp [methK]
def methKK (c : Nat) (f : FT) (ss : List Src) (dd : List D) (es kws : EM (List D)) (p : PV) : D → EM SV := fun d0 => match p, d0 with
  | .v d, .ins c' _ => if c' = c then EM.bind es fun ds => EM.bind kws fun zs e m => (f (d :: pickL ss ds dd zs) m).to e else fun _ _ => .stuck
  | _, _ => fun _ _ => .stuck
@[simp] theorem ev_methK (c : Nat) (f : FT) (ss : List Src) (dd : List D) (a : EM PV) (es kws : EM (List D)) : eMethK c f ss dd a es kws e m = (a e m).bind fun p => EM.bind p.now (methKK c f ss dd es kws p) := by
  show (a e m).bind _ = _
  congr 1
@[simp] theorem methKK_ins (c : Nat) (f : FT) (ss : List Src) (dd : List D) (es kws : EM (List D)) (d : D) (fs : List (Nat × D)) : methKK c f ss dd es kws (.v d) (.ins c fs) e m = (es e m).bind fun ds => EM.bind kws fun zs e m => (f (d :: pickL ss ds dd zs) m).to e := by
  simp [methKK]
@[simp] theorem fFld_ins (c f : Nat) (fs : List (Nat × D)) : fFld c f (.ins c fs) = (fs.lookup f).map .val := by simp [fFld]
@[simp] theorem lk_cons (a k : Nat) (d : D) (r : List (Nat × D)) : List.lookup a ((k, d) :: r) = if a = k then some d else r.lookup a := by
  by_cases h : a = k
  · subst h; simp [List.lookup]
  · have h2 : (a == k) = false := beq_eq_false_iff_ne.mpr h
    simp [List.lookup, h, h2]
@[simp] theorem lk_nil (a : Nat) : List.lookup a ([] : List (Nat × D)) = none := rfl
@[simp] theorem fXf_exn (f c : Nat) (fs : List (Nat × D)) : fXf f (.exn c fs) = (fs.lookup f).map .val := rfl
@[simp] theorem ev_fldP (c f : Nat) (v : EM D) (o : EM PV) : sFldP c f v o e m = (v e m).bind fun d => EM.bind o fun p => EM.bind (p.chg fun u => (mFldP c f d u).map fun u' => (.non, u')) fun _ => EM.pure .nx := rfl
@[simp] theorem mFldP_ins (c f : Nat) (d : D) (fs : List (Nat × D)) (h : fs.length < 900) : mFldP c f d (.ins c fs) = some (.ins c (putFD f d fs)) := by simp [mFldP, h]
@[simp] theorem putFD_nil (f : Nat) (v : D) : putFD f v [] = [(f, v)] := rfl
@[simp] theorem putFD_cons (f : Nat) (v : D) (g : Nat) (x : D) (r : List (Nat × D)) : putFD f v ((g, x) :: r) = if g = f then (g, v) :: r else (g, x) :: putFD f v r := rfl
/-! the last shared object -/
@[simp] theorem mh_last (o : MO) : (m ++ [o])[m.length]? = some o := by simp
@[simp] theorem mh_set (o o' : MO) : (m ++ [o]).set m.length o' = m ++ [o'] := by simp
theorem mkI_ok {c : Nat} {f : FT} {ds : List D} {o : MO} (h : f (.obj m.length :: ds) (m ++ [.ins c []]) = .ok (.val .non) (m ++ [o])) (l : o.lim true m.length = true) : mkI c f ds m = .ok (.own o) m := by
  simp [mkI, h, finI_mk, l]
theorem mkI_err {c : Nat} {f : FT} {ds : List D} {o : MO} {x : Xn} (h : f (.obj m.length :: ds) (m ++ [.ins c []]) = .err x (m ++ [o])) (l : limF true m.length x.fs = true) : mkI c f ds m = .err x m := by
  simp [mkI, h, finI_mk, l]
end
@[simp] theorem fStrA_str (cs : List Nat) : fStrA [.str cs] = some (.val (.str cs)) := rfl
@[simp] theorem fStrA_int (i : Int) : fStrA [.int i] = fReprA [.int i] := rfl
@[simp] theorem fStrA_non : fStrA [.non] = fReprA [.non] := rfl
@[simp] theorem fStrA_bl (b : Bool) : fStrA [.bl b] = fReprA [.bl b] := rfl
@[simp] theorem fStrA_dic (ds : List (D × D)) : fStrA [.dic ds] = fReprA [.dic ds] := rfl
@[simp] theorem fStrA_lst (ds : List D) : fStrA [.lst ds] = fReprA [.lst ds] := rfl
@[simp] theorem fStrA_tup (ds : List D) : fStrA [.tup ds] = fReprA [.tup ds] := rfl
@[simp] theorem fMulS_i (i j : Int) : fMulS (.int i) (.int j) = fMul (.int i) (.int j) := rfl
@[simp] theorem fMulS_l (xs : List D) (y : D) : fMulS (.lst xs) y = fMulX (.lst xs) y := rfl
@[simp] theorem fMulS_t (xs : List D) (y : D) : fMulS (.tup xs) y = fMulX (.tup xs) y := rfl
end PI
/-! PICls3: exceptions with fields are raised; handlers without a name. -/
namespace PI
open PySem
/-- raise C(..), C's __init__ stores its parameters in the fields fl -/
def sRaiseF (c : Nat) (fl : List Nat) (dd : List D) (es : EM (List D)) : EM Fl := EM.bind es fun ds e m => .err ⟨c, fl.zip (ds ++ dd)⟩ e m
/-- try: body, except C: return d (no name; sub: which classes are caught) -/
def tryN (n : Nat) (sub : Nat → Bool) (d : D) : Res Fl → Res Fl
  | .err x e M => if x.c < n then (if sub x.c then .ok (.ret (.val d)) e M else .err x e M) else .stuck
  | r => r
def sTryN (n : Nat) (sub : Nat → Bool) (d : D) (body : EM Fl) : EM Fl := fun e M => tryN n sub d (body e M)
end PI
/-! PICls4: int(text). -/
namespace PI
open PySem
/-- the number that figures write -/
def valD (cs : List Nat) : Nat := cs.foldl (fun acc c => acc * 10 + (c - 48)) 0
/-- int(x), x figures too -/
def fIntT : List D → Option SV
  | [.str cs] => if cs ≠ [] ∧ (∀ c ∈ cs, 48 ≤ c ∧ c ≤ 57) ∧ cs.length ≤ 640 then sv (.int (valD cs)) else none
  | ds => fIntB ds
end PI
/-! PICls5: == by a class's own __eq__, in by it. -/
namespace PI
open PySem
def onlyV : PV → EM D
  | .v d => EM.pure d
  | .sl _ => fun _ _ => .stuck
/-- a comparison that runs code -/
def tO2 (f : D → D → Option Bool) (a b : EM PV) : EM Bool := EM.bind a fun p => EM.bind b fun q => EM.bind (onlyV p) fun x => EM.bind q.now fun y => EM.lift (f x y)
end PI
namespace PI
open PySem
/-- the text that an own __str__, __repr__ answers -/
def txtOf (f : FT) (x : D) : Option (List Nat) := match f [x] [] with
  | .ok (.val (.str t)) [] => if limL false 0 [x] then some t else none
  | _ => none
/-- str(x), x an instance too -/
def fStrO (c : Nat) (f : FT) : List D → Option SV
  | [.ins c' fs] => if c' = c then (txtOf f (.ins c' fs)).map fun t => .val (.str t) else none
  | ds => fStrA ds
/-- repr(x), x an instance too -/
def fReprO (c : Nat) (f : FT) : List D → Option SV
  | [.ins c' fs] => if c' = c then (txtOf f (.ins c' fs)).map fun t => .val (.str t) else none
  | ds => fReprA ds
/-- a built-in that runs code -/
def eBU (f : List D → Option SV) (m : EM (List D)) : EM SV := EM.bind m fun ds => EM.lift (f ds)
end PI
namespace PI
open PySem
end PI
/-! PICls6: f-strings. -/
namespace PI
open PySem
/-- {x} -/
def fmtD : D → Option (List Nat)
  | .str t => if t.length ≤ 1000000 then some t else none
  | .int i => if i.natAbs < 10 ^ 44 ∧ (textOf (.int i)).length ≤ 1000000 then some (textOf (.int i)) else none
  | _ => none
/-- {x!r} -/
def fmtRD : D → Option (List Nat)
  | .str t => if (textOf (.str t)).length ≤ 1000000 then some (textOf (.str t)) else none
  | .int i => if i.natAbs < 10 ^ 44 ∧ (textOf (.int i)).length ≤ 1000000 then some (textOf (.int i)) else none
  | _ => none
def eFmt (f : D → Option (List Nat)) (m : EM D) : EM (List Nat) := EM.bind m fun d => EM.lift (f d)
/-- f'..' -/
def eJoinS : List (EM (List Nat)) → List Nat → EM SV
  | [], acc => EM.pure (.val (.str acc))
  | p :: ps, acc => EM.bind p fun t => if (acc ++ t).length ≤ 1000000 then eJoinS ps (acc ++ t) else fun _ _ => .stuck
end PI
/-! PICls7: count, index by an own ==; == of an instance and anything. -/
namespace PI
open PySem
/-- a method of a built-in type that runs code -/
def eMI (T : Ty) (f : D → List D → Option SV) (a : EM PV) (es : EM (List D)) : EM SV := EM.bind a fun p => EM.bind p.now fun d0 => if T.has d0 then
  EM.bind es fun ds => EM.bind p.now fun d => EM.lift (f d ds) else fun _ _ => .stuck
def tO3 (f : D → D → Option Bool) (a b : EM PV) : EM Bool := EM.bind a fun p => EM.bind b fun q => EM.bind (onlyV p) fun x => EM.bind (onlyV q) fun y => EM.lift (f x y)
end PI
/-! PICls8: len by an own __len__; an except suite of one's own. -/
namespace PI
open PySem
/-- what an except suite answers; slot i the exception -/
def hG (N i : Nat) (hb : EM Fl) (x : Xn) : Option D := match hb ((List.replicate N (none : Option SV)).set i (some (.val (.exn x.c x.fs)))) [] with
  | .ok (.ret (.val d)) _ [] => if d.okR then some d else none
  | _ => none
end PI
/-! PIFun4: a list against the empty list. -/
namespace PI
/-- x != [] -/
def fNeM (x y : D) : Option Bool := match fNe x y with
  | some r => some r
  | none => match x, y with
    | .lst ds, .lst [] => some !ds.isEmpty
    | _, _ => none
end PI
/-! PIDicB: dict(x), d.pop, list(d.values()), list(d.items()), min(xs, default=n). -/
namespace PI
open PySem
/-- pairs, keys numbers or texts -/
def pairsK : List D → Option (List (D × D))
  | [] => some []
  | .tup [k, v] :: r => if k.flatKey then (pairsK r).map ((k, v) :: ·) else none
  | .tupw [k, v] :: r => if k.flatKey then (pairsK r).map ((k, v) :: ·) else none
  | _ :: _ => none
def mergeD (acc more : List (D × D)) : List (D × D) := more.foldl (fun a p => dPutN a p.1 p.2) acc
/-- dict(x): of a dict, of pairs -/
def fDict : List D → Option SV
  | [.dic kvs] => if kvs.all (·.1.flatKey) then some (.own (.dic kvs)) else none
  | [.lst ps] => (pairsK ps).bind fun kvs => if okLen kvs.length then some (.own (.dic (mergeD [] kvs))) else none
  | _ => none
/-- list(x), x a dict too -/
def fListX : List D → Option SV
  | [.dic kvs] => if kvs.all (·.1.flatKey) then some (.own (.lst (kvs.map (·.1)))) else none
  | ds => fList ds
end PI
/-! PITryC: try with any number of except clauses, what it computes. -/
namespace PI
open PySem
/-- one clause: which classes it catches, its name's slot, what its suite answers -/
structure Hx where
  sub : Nat → Bool
  i : Option Nat
  h : Xn → Option D
def okO (i : Option Nat) (e : Env) : Bool := match i with
  | none => true
  | some i => decide (i < e.length)
def tryP (x : Xn) (e : Env) (M : MH) : List Hx → Res Fl
  | [] => .err x e M
  | q :: r => if q.sub x.c = true then (if (limF false 0 x.fs && okO q.i e) = true then (match q.h x with
    | some d => .ok (.ret (.val d)) e M
    | none => .stuck) else .stuck) else tryP x e M r
end PI
/-! PIBor: x, y = a, b with an object of one's own first; calls that only read an object of one's own; dicts compared; max of a dict. -/
namespace PI
open PySem
/-- nothing that can be changed, nothing that holds such -/
def D.leaf0 : D → Bool
  | .non => true
  | .bl _ => true
  | .int _ => true
  | .str _ => true
  | _ => false
def D.leaf : D → Bool
  | .tup ds => ds.all D.leaf0
  | d => d.leaf0
end PI
/-! PISrtC: sorted(xs, key=f) with a def of one's own; x or y of any things. -/
namespace PI
open PySem
end PI
/-! PIOrA: x or y of any things. -/
namespace PI
open PySem
end PI
/-! PIBorE: an expression that reads one object of one's own and makes a list. -/
namespace PI
open PySem
end PI
/-! PIBor2: f(a, x, ..): x, a list of one's own, only read; a new list of leaves comes back. -/
namespace PI
open PySem
end PI
/-! PIBorG: an expression that only reads some locals, objects of one's own among them, and makes a list of leaves or a leaf. -/
namespace PI
open PySem
end PI
/-! PIBorM: f(a, b, c, x, ..): x, a list of one's own, only read; f looks at shared objects, too, and leaves them as they are; a leaf or a new list of leaves comes back. -/
namespace PI
open PySem
mutual
/-- no list, no dict within -/
def D.nl : D → Bool
  | .tup ds => nlL ds
  | .ins _ fs => nlF fs
  | .non => true
  | .bl _ => true
  | .int _ => true
  | .str _ => true
  | .obj _ => true
  | .fn _ => true
  | .cls _ => true
  | .ty _ => true
  | _ => false
def nlL : List D → Bool
  | [] => true
  | d :: ds => d.nl && nlL ds
def nlF : List (Nat × D) → Bool
  | [] => true
  | (_, d) :: r => d.nl && nlF r
end
def MO.nl : MO → Bool
  | .lst ds => nlL ds
  | .ins _ fs => nlF fs
  | .dic _ => false
end PI
/-! PICls9: attributes as targets; dict displays by texts; len, str, repr of shared instances by their class's own. -/
namespace PI
open PySem
/-! {"k": e, ..} -/
/-! an own __len__, __str__, __repr__ of an instance, wherever it stands -/
end PI
/-! PIRepN: repr of things that hold instances of a class with an own __repr__. -/
namespace PI
open PySem
mutual
def D.rpN (c : Nat) (f : FT) : D → Option Str
  | .non => some "None"
  | .bl b => some (if b then "True" else "False")
  | .int i => if i.natAbs.log2 < 1920 then some (toString i : String) else none
  | .str cs => some (reprText ⟨cs.toArray⟩)
  | .tup xs => (rpNL c f xs).map tupleText
  | .lst xs => (rpNL c f xs).map listText
  | .dic kvs => if (kvs.all fun p => p.1.flatKey) = true then (rpNK c f kvs).map dictText else none
  | .ins c' fs => if c' = c then (txtOf f (.ins c' fs)).map fun t => ⟨t.toArray⟩ else none
  | _ => none
def rpNL (c : Nat) (f : FT) : List D → Option (List Str)
  | [] => some []
  | x :: xs => (x.rpN c f).bind fun t => (rpNL c f xs).map (t :: ·)
def rpNK (c : Nat) (f : FT) : List (D × D) → Option (List Str)
  | [] => some []
  | (k, v) :: r => (k.rpN c f).bind fun t => (v.rpN c f).bind fun u => (rpNK c f r).map ((t ++ (": " : Str) ++ u) :: ·)
end
mutual
def D.htN : D → Nat
  | .tup xs => htNL xs + 1
  | .lst xs => htNL xs + 1
  | .dic kvs => htNK kvs + 1
  | _ => 0
def htNL : List D → Nat
  | [] => 0
  | x :: xs => max x.htN (htNL xs)
def htNK : List (D × D) → Nat
  | [] => 0
  | (_, v) :: r => max v.htN (htNK r)
end
def D.isBox : D → Bool
  | .tup _ => true
  | .lst _ => true
  | .dic _ => true
  | _ => false
/-- repr of what holds instances -/
def fReprH (c : Nat) (f : FT) : List D → Option SV
  | [d] => if d.isBox = true then (d.rpN c f).bind fun t => if t.length ≤ 1000000 ∧ d.htN ≤ 12 then some (.val (.str t.cps.toList)) else none else none
  | _ => none
def fReprN (c : Nat) (f : FT) (ds : List D) : Option SV := match fReprO c f ds with
  | some r => some r
  | none => fReprH c f ds
end PI
namespace L73
open PySem PI
noncomputable section
def fnNames : List Str := (["NoText___init__", "is_whole", "is_within", "is_word", "is_size", "is_year", "Bottle___init__", "Bottle___str__", "Bottle___repr__", "is_bottle", "are_bottles", "written", "number_of", "bottle_of", "read", "_law_cell_at", "_law_pot", "_law_take", "_law_mixed", "_law_odd", "_law_kinds", "_law_word", "_law_kind_of", "_law_bottles", "_law_heard"] : List Str) ++ (["_law_written_so", "law"] : List Str)
def tabNames : List Str := []
def fldNames : List Str := (["many", "most", "line", "room", "shelf", "number", "fate", "others", "maker", "year", "size"] : List Str)
def clsNames : List Str := ["NoBottles", "NoSize", "NoText", "NoMaker", "NoYear", "Bottle", "CellarError", "HereError", "NoBottle", "NoRooms", "NoHold", "NoPlace", "NoNumber", "NoMonth", "NoWho", "NoSet", "NoDeed", "NoWishes", "NoLine", "TooMany", "Full", "Gone", "Kept"]
abbrev nX : Nat := 5
def mroT : Nat → List D
  | 0 => [.cls 0, .cls 6, .ty "ValueError", .ty "Exception", .ty "BaseException", .ty "object"]
  | 1 => [.cls 1, .cls 6, .ty "ValueError", .ty "Exception", .ty "BaseException", .ty "object"]
  | 2 => [.cls 2, .cls 6, .ty "ValueError", .ty "Exception", .ty "BaseException", .ty "object"]
  | 3 => [.cls 3, .cls 6, .ty "ValueError", .ty "Exception", .ty "BaseException", .ty "object"]
  | 4 => [.cls 4, .cls 6, .ty "ValueError", .ty "Exception", .ty "BaseException", .ty "object"]
  | _ => []
def subT : Nat → Bool
  | 0 => true
  | 1 => true
  | 2 => true
  | 3 => true
  | 4 => true
  | _ => false
def ksT : List D := [.cls 19, .cls 2, .cls 20, .cls 21, .cls 22, .cls 3, .cls 4, .cls 1, .cls 8, .cls 6, .cls 7, .cls 0, .cls 9, .cls 10, .cls 13, .cls 14, .cls 15, .cls 16, .cls 17, .cls 18, .cls 12, .cls 11, .ty "ValueError", .ty "LookupError"]
/-! is_whole -/
def m_is_whole : FT := mkF 1 1 (sRet (eAndV (eB fIsi (eCons (pLoc 0) (eCons (pOf (eCon (.ty "int"))) eNil))) (eNotV (eB fIsi (eCons (pLoc 0) (eCons (pOf (eCon (.ty "bool"))) eNil))))))
/-! is_within -/
def m_is_within : FT := mkF 3 3 (sRet (eAndV (eCallD m_is_whole [] (eCons (eUse (eLoc 0)) eNil)) (eBool (t3 fLe fLe (pLoc 1) (pLoc 0) (pLoc 2)))))
/-! is_word -/
def m_is_word : FT := mkF 2 3 (sSeq (sIf (PI.tOr (PI.tNot (tTruN (pOf (eB fIsi (eCons (pLoc 0) (eCons (pOf (eCon (.ty "str"))) eNil)))))) (PI.tNot (t3 fLe fLe (pLoc 1) (pOf (eB fLen (eCons (pLoc 0) eNil))) (pOf (eCon (.int 8)))))) (sRet (eCon (.bl false))) sPass)
    (sRet (eB fAll (eCons (pOf (eLc (gNm 2) (itSeq (eLoc 0)) tYes (eUse (eBool (t2 fIn (pLoc 2) (pOf (eCon (.str [97, 98, 99, 100, 101, 102, 103, 104, 105, 106, 107, 108, 109, 110, 111, 112, 113, 114, 115, 116, 117, 118, 119, 120, 121, 122])))))) [2])) eNil))))
/-! is_size -/
def m_is_size : FT := mkF 1 1 (sRet (eAndV (eCallD m_is_whole [] (eCons (eUse (eLoc 0)) eNil)) (eBool (t2 fIn (pLoc 0) (pOf (eCon (.tup [(.int 37), (.int 75), (.int 150)])))))))
/-! is_year -/
def m_is_year : FT := mkF 1 1 (sRet (eCallD m_is_within [] (eCons (eUse (eLoc 0)) (eCons (eUse (eCon (.int 1900))) (eCons (eUse (eCon (.int 2100))) eNil)))))
/-! Bottle___init__ -/
def m_Bottle___init__ : FT := mkF 4 4 (sSeq (sIf (PI.tNot (tTruN (pOf (eCallD m_is_word [(.int 1)] (eCons (eUse (eLoc 1)) eNil))))) (sRaise 3) sPass)
    (sSeq (sIf (PI.tNot (tTruN (pOf (eCallD m_is_year [] (eCons (eUse (eLoc 2)) eNil))))) (sRaise 4) sPass)
    (sSeq (sIf (PI.tNot (tTruN (pOf (eCallD m_is_size [] (eCons (eUse (eLoc 3)) eNil))))) (sRaise 1) sPass)
    (sSeq (sFldP 5 8 (eUse (eLoc 1)) (pLoc 0))
    (sSeq (sFldP 5 9 (eUse (eLoc 2)) (pLoc 0))
    (sFldP 5 10 (eUse (eLoc 3)) (pLoc 0)))))))
def m_Bottle : FT := mkI 5 m_Bottle___init__
/-! Bottle___str__ -/
def m_Bottle___str__ : FT := mkF 1 2 (sSeq (sSet 1 (eLst (eCons (eUse (e1 (fFld 5 8) (pLoc 0))) (eCons (eUse (eB fStrA (eCons (pOf (e1 (fFld 5 9) (pLoc 0))) eNil))) eNil))))
    (sSeq (sIf (t2 fNe (pOf (e1 (fFld 5 10) (pLoc 0))) (pOf (eCon (.int 75)))) (sExp (eMut .list mAppend (pLoc 1) (eCons (eUse (eB fStrA (eCons (pOf (e1 (fFld 5 10) (pLoc 0))) eNil))) eNil))) sPass)
    (sRet (eM .str fJoin (pOf (eCon (.str [32]))) (eCons (pLoc 1) eNil)))))
/-! Bottle___repr__ -/
def m_Bottle___repr__ : FT := mkF 1 1 (sRet (eJoinS [EM.pure [66, 111, 116, 116, 108, 101, 40], eFmt fmtRD (eUse (e1 (fFld 5 8) (pLoc 0))), EM.pure [44, 32], eFmt fmtD (eUse (e1 (fFld 5 9) (pLoc 0))), EM.pure [44, 32], eFmt fmtD (eUse (e1 (fFld 5 10) (pLoc 0))), EM.pure [41]] []))
/-! is_bottle -/
def m_is_bottle : FT := mkF 1 1 (sRet (eB (fIsU 5 6) (eCons (pLoc 0) (eCons (pOf (eCon (.cls 5))) eNil))))
/-! are_bottles -/
def m_are_bottles : FT := mkF 1 2 (sRet (eAndV (eB (fIsU 5 6) (eCons (pLoc 0) (eCons (pOf (eCon (.ty "list"))) eNil))) (eB fAll (eCons (pOf (eLc (gNm 1) (itSeq (eLoc 0)) tYes (eUse (eCallD m_is_bottle [] (eCons (eUse (eLoc 1)) eNil))) [1])) eNil))))
/-! written -/
def m_written : FT := mkF 1 2 (sSeq (sIf (PI.tNot (tTruN (pOf (eCallD m_are_bottles [] (eCons (eUse (eLoc 0)) eNil))))) (sRaise 0) sPass)
    (sRet (eM .str fJoin (pOf (eCon (.str [10]))) (eCons (pOf (eLc (gNm 1) (itSeq (eLoc 0)) tYes (eUse (eBU (fStrO 5 m_Bottle___str__) (eCons (eUse (eLoc 1)) eNil))) [1])) eNil))))
/-! number_of -/
def m_number_of : FT := mkF 2 3 (sSeq (sIf (PI.tOr (PI.tNot (t3 fLe fLe (pOf (eCon (.int 1))) (pOf (eB fLen (eCons (pLoc 0) eNil))) (pLoc 1))) (PI.tNot (tTruN (pOf (eB fAll (eCons (pOf (eLc (gNm 2) (itSeq (eLoc 0)) tYes (eUse (eBool (t2 fIn (pLoc 2) (pOf (eCon (.str [48, 49, 50, 51, 52, 53, 54, 55, 56, 57])))))) [2])) eNil)))))) (sRet (eCon .non)) sPass)
    (sSeq (sIf (PI.tAnd (t2 fGt (pOf (eB fLen (eCons (pLoc 0) eNil))) (pOf (eCon (.int 1)))) (t2 fEq (pOf (e2 fIx (pLoc 0) (pOf (eCon (.int 0))))) (pOf (eCon (.str [48]))))) (sRet (eCon .non)) sPass)
    (sRet (eB fIntT (eCons (pLoc 0) eNil)))))
/-! bottle_of -/
def m_bottle_of : FT := mkF 2 5 (sSeq (sSetF 2 (eM .str fSplit (pLoc 0) (eCons (pOf (eCon (.str [32]))) eNil)))
    (sSeq (sIf (t2 fNotIn (pOf (eB fLen (eCons (pLoc 2) eNil))) (pOf (eTup (eCons (eUse (eCon (.int 2))) (eCons (eUse (eCon (.int 3))) eNil))))) (sRet (eCon .non)) sPass)
    (sSeq (sSetF 3 (eLc (gNm 4) (itSeq (eCut (pLoc 2) (ePart (pOf (eCon (.int 1)))) eNoPart)) tYes (eUse (eCallD m_number_of [] (eCons (eUse (eLoc 4)) (eCons (eUse (eCon (.int 2000))) eNil)))) [4]))
    (sSeq (sIf (t2 fIn (pOf (eCon .non)) (pLoc 3)) (sRet (eCon .non)) sPass)
    (sTryN nX subT .non (sRet (eCallD m_Bottle [] (eCons (eUse (e2 fIx (pLoc 2) (pOf (eCon (.int 0))))) (eCons (eUse (e2 fIx (pLoc 3) (pOf (eCon (.int 0))))) (eCons (eUse (e2 fIx (pOf (e2 fAdd (pLoc 3) (pOf (eLst (eCons (eUse (eLoc 1)) eNil))))) (pOf (eCon (.int 1))))) eNil))))))))))
/-! read -/
def l_read_1 : EM Fl := (sIf (t2 fNe (pOf (eLc (gNm 5) (itSeq (eLoc 4)) (t2 fNotIn (pLoc 5) (pOf (eCon (.str [32, 9])))) (eUse (eLoc 5)) [5])) (pOf (eLst eNil))) (sSeq (sSetF 6 (eCallD m_bottle_of [] (eCons (eUse (eLoc 4)) (eCons (eUse (eLoc 1)) eNil))))
    (sSeq (sIf (tIsN (pLoc 6)) (sRaiseF 2 [2] [] (eCons (eUse (e2 fAdd (pLoc 3) (pOf (eCon (.int 1))))) eNil)) sPass)
    (sExp (eMut .list mAppend (pLoc 2) (eCons (eUse (eLoc 6)) eNil))))) sPass)
def m_read : FT := mkF 2 7 (sSeq (sIf (PI.tOr (tTruN (pOf (eB fIsi (eCons (pLoc 1) (eCons (pOf (eCon (.ty "bool"))) eNil))))) (PI.tOr (PI.tNot (tTruN (pOf (eB fIsi (eCons (pLoc 1) (eCons (pOf (eCon (.ty "int"))) eNil)))))) (t2 fNotIn (pLoc 1) (pOf (eCon (.tup [(.int 37), (.int 75), (.int 150)])))))) (sRaise 1) sPass)
    (sSeq (sIf (PI.tNot (tTruN (pOf (eB (fIsU 5 6) (eCons (pLoc 0) (eCons (pOf (eCon (.ty "str"))) eNil)))))) (sRaiseF 2 [2] [(.int 0)] eNil) sPass)
    (sSeq (sSet 2 (eLst eNil))
    (sSeq (sFor (gTup [(gNm 3), (gNm 4)]) (itArgs enumOf (eCons (eUse (eM .str fSplit (pLoc 0) (eCons (pOf (eCon (.str [10]))) eNil))) eNil)) l_read_1)
    (sRet (eMov 2))))))
/-! _law_cell_at -/
def m__law_cell_at : FT := mkF 2 2 (sSeq (sIf (t2 fLt (pLoc 1) (pOf (eB fLen (eCons (pLoc 0) eNil)))) (sRet (e2 fIx (pLoc 0) (pLoc 1))) sPass)
    (sRet (eCon (.int 0))))
/-! _law_pot -/
def l__law_pot_1 : EM Fl := (sSeq (sSetF 3 (e2 fMod (pOf (e2 fMul (pOf (e2 fAdd (pOf (e2 fAdd (pOf (e2 fMod (pLoc 0) (pOf (eCon (.int 2147483629))))) (pOf (e2 fMul (pOf (eCon (.int 7919))) (pLoc 2))))) (pOf (eCon (.int 1))))) (pOf (eCon (.int 48271))))) (pOf (eCon (.int 2147483647)))))
    (sSeq (sSetF 3 (e2 fMod (pOf (e2 fAdd (pOf (e2 fAdd (pOf (e2 fMul (pLoc 3) (pLoc 3))) (pOf (e2 fMul (pOf (eCon (.int 69621))) (pLoc 2))))) (pOf (eCon (.int 7))))) (pOf (eCon (.int 2147483587)))))
    (sSetF 1 (e2 fAdd (pOf (e2 fMul (pLoc 1) (pOf (eCon (.int 2147483587))))) (pLoc 3)))))
def m__law_pot : FT := mkF 1 4 (sSeq (sIf (t2 fGe (pLoc 0) (pOf (e2 fPow (pOf (eCon (.int 10))) (pOf (eCon (.int 18)))))) (sRet (eLst (eCons (eUse (e2 fSub (pLoc 0) (pOf (e2 fPow (pOf (eCon (.int 10))) (pOf (eCon (.int 18))))))) eNil))) sPass)
    (sSeq (sSet 1 (eCon (.int 0)))
    (sSeq (sFor (gNm 2) (itR1 (eCons (pOf (eCon (.int 64))) eNil)) l__law_pot_1)
    (sRet (eLst (eCons (eUse (eLoc 1)) eNil))))))
/-! _law_take -/
def m__law_take : FT := mkF 2 3 (sSeq (sSetF 2 (e2 fMod (pOf (e2 fIx (pLoc 0) (pOf (eCon (.int 0))))) (pLoc 1)))
    (sSeq (sPut pLst (eUse (e2 fDiv (pOf (e2 fIx (pLoc 0) (pOf (eCon (.int 0))))) (pLoc 1))) (pLoc 0) (eUse (eCon (.int 0))))
    (sRet (eMov 2))))
/-! _law_mixed -/
def m__law_mixed : FT := mkF 2 4 (sSeq (sSet 2 (eB fListX (eCons (pLoc 1) eNil)))
    (sRet (eLc (gNm 3) (itSeq (eLoc 1)) tYes (eUse (eMut .list mPop (pLoc 2) (eCons (eUse (eCallD m__law_take [] (eCons (eUse (eLoc 0)) (eCons (eUse (eB fLen (eCons (pLoc 2) eNil))) eNil)))) eNil))) [3])))
/-! _law_odd -/
def m__law_odd : FT := mkF 1 2 (sSeq (sSetF 1 (eLst (eCons (eUse (eCon .non)) (eCons (eUse (eCon (.bl true))) (eCons (eUse (eCon (.bl false))) (eCons (eUse (e1 fNeg (pOf (eCon (.int 1))))) (eCons (eUse (e2 fPow (pOf (eCon (.int 10))) (pOf (eCon (.int 30))))) (eCons (eUse (eCon (.str []))) (eCons (eUse (eCon (.str [97]))) (eCons (eUse (eCon (.str [49]))) (eCons (eUse (eTup eNil)) (eCons (eUse (eLst eNil)) (eCons (eUse eDic0) (eCons (eUse (eLst (eCons (eUse (eTup eNil)) eNil))) (eCons (eUse (eTup (eCons (eUse (eTup eNil)) eNil))) (eCons (eUse (eTup (eCons (eUse (eCon (.int 0))) eNil))) (eCons (eUse (eLst (eCons (eUse (eCon (.int 0))) eNil))) (eCons (eUse (eDicI (0) (1))) (eCons (eUse (eTup (eCons (eUse (eCon (.bl true))) (eCons (eUse (eCon (.bl true))) eNil)))) eNil)))))))))))))))))))
    (sRet (e2 fIx (pLoc 1) (pOf (eCallD m__law_take [] (eCons (eUse (eLoc 0)) (eCons (eUse (eB fLen (eCons (pLoc 1) eNil))) eNil)))))))
/-! _law_kinds -/
def l__law_kinds_1 : EM Fl := (sSeq (sSetF 4 (e2 fIx (pOf (eLst (eCons (eUse (eCon (.int 1900))) (eCons (eUse (eCon (.int 2100))) (eCons (eUse (e2 fAdd (pOf (eCon (.int 1950))) (pOf (eCallD m__law_take [] (eCons (eUse (eLoc 0)) (eCons (eUse (eCon (.int 4))) eNil)))))) (eCons (eUse (e2 fAdd (pOf (eCon (.int 1900))) (pOf (eCallD m__law_take [] (eCons (eUse (eLoc 0)) (eCons (eUse (eCon (.int 201))) eNil)))))) eNil)))))) (pOf (eCallD m__law_take [] (eCons (eUse (eLoc 0)) (eCons (eUse (eCon (.int 4))) eNil))))))
    (sExp (eMut .list mAppend (pLoc 2) (eCons (eUse (eTup (eCons (eUse (e2 fIx (pLoc 1) (pOf (eCallD m__law_take [] (eCons (eUse (eLoc 0)) (eCons (eUse (eB fLen (eCons (pLoc 1) eNil))) eNil)))))) (eCons (eUse (eLoc 4)) (eCons (eUse (e2 fIx (pOf (eLst (eCons (eUse (eCon (.int 75))) (eCons (eUse (eCon (.int 37))) (eCons (eUse (eCon (.int 150))) (eCons (eUse (eCon (.int 75))) eNil)))))) (pOf (eCallD m__law_take [] (eCons (eUse (eLoc 0)) (eCons (eUse (eCon (.int 4))) eNil)))))) eNil))))) eNil))))
def m__law_kinds : FT := mkF 1 5 (sSeq (sSetF 1 (eCut (pOf (eCallD m__law_mixed [] (eCons (eUse (eLoc 0)) (eCons (eUse (eLst (eCons (eUse (eCon (.str [97]))) (eCons (eUse (eCon (.str [98, 111]))) (eCons (eUse (eCon (.str [99, 121]))) (eCons (eUse (eCon (.str [122, 122, 122, 122, 122, 122, 122, 122]))) (eCons (eUse (eCon (.str [109]))) eNil))))))) eNil)))) eNoPart (ePart (pOf (e2 fAdd (pOf (eCon (.int 1))) (pOf (eCallD m__law_take [] (eCons (eUse (eLoc 0)) (eCons (eUse (eCon (.int 3))) eNil)))))))))
    (sSeq (sSet 2 (eLst eNil))
    (sSeq (sFor (gNm 3) (itR1 (eCons (pOf (e2 fAdd (pOf (eCon (.int 1))) (pOf (eCallD m__law_take [] (eCons (eUse (eLoc 0)) (eCons (eUse (eCon (.int 6))) eNil)))))) eNil)) l__law_kinds_1)
    (sRet (eMov 2)))))
/-! _law_word -/
def m__law_word : FT := mkF 1 3 (sSeq (sSetF 1 (eLst (eCons (eUse (eB (fIsX2 mroT nX ksT) (eCons (pLoc 0) (eCons (pOf (eCon (.cls 3))) eNil)))) (eCons (eUse (eB (fIsX2 mroT nX ksT) (eCons (pLoc 0) (eCons (pOf (eCon (.cls 4))) eNil)))) (eCons (eUse (eB (fIsX2 mroT nX ksT) (eCons (pLoc 0) (eCons (pOf (eCon (.cls 1))) eNil)))) (eCons (eUse (eB (fIsX2 mroT nX ksT) (eCons (pLoc 0) (eCons (pOf (eCon (.cls 8))) eNil)))) eNil))))))
    (sSeq (sSetF 1 (e2 fAdd (pLoc 1) (pOf (eLst (eCons (eUse (eB (fIsX2 mroT nX ksT) (eCons (pLoc 0) (eCons (pOf (eCon (.cls 0))) eNil)))) (eCons (eUse (eB (fIsX2 mroT nX ksT) (eCons (pLoc 0) (eCons (pOf (eCon (.cls 9))) eNil)))) (eCons (eUse (eB (fIsX2 mroT nX ksT) (eCons (pLoc 0) (eCons (pOf (eCon (.cls 10))) eNil)))) (eCons (eUse (eB (fIsX2 mroT nX ksT) (eCons (pLoc 0) (eCons (pOf (eCon (.cls 13))) eNil)))) eNil))))))))
    (sSeq (sSetF 1 (e2 fAdd (pLoc 1) (pOf (eLst (eCons (eUse (eB (fIsX2 mroT nX ksT) (eCons (pLoc 0) (eCons (pOf (eCon (.cls 14))) eNil)))) (eCons (eUse (eB (fIsX2 mroT nX ksT) (eCons (pLoc 0) (eCons (pOf (eCon (.cls 15))) eNil)))) (eCons (eUse (eB (fIsX2 mroT nX ksT) (eCons (pLoc 0) (eCons (pOf (eCon (.cls 16))) eNil)))) (eCons (eUse (eB (fIsX2 mroT nX ksT) (eCons (pLoc 0) (eCons (pOf (eCon (.cls 17))) eNil)))) eNil))))))))
    (sSeq (sSetF 1 (e2 fAdd (pLoc 1) (pOf (eLst (eCons (eUse (eB (fIsX2 mroT nX ksT) (eCons (pLoc 0) (eCons (pOf (eCon (.cls 18))) eNil)))) (eCons (eUse (eB (fIsX2 mroT nX ksT) (eCons (pLoc 0) (eCons (pOf (eCon (.cls 12))) eNil)))) (eCons (eUse (eB (fIsX2 mroT nX ksT) (eCons (pLoc 0) (eCons (pOf (eCon (.cls 11))) eNil)))) (eCons (eUse (eB (fIsX2 mroT nX ksT) (eCons (pLoc 0) (eCons (pOf (eCon (.cls 19))) eNil)))) eNil))))))))
    (sSeq (sSetF 1 (e2 fAdd (pLoc 1) (pOf (eLst (eCons (eUse (eB (fIsX2 mroT nX ksT) (eCons (pLoc 0) (eCons (pOf (eCon (.cls 2))) eNil)))) (eCons (eUse (eB (fIsX2 mroT nX ksT) (eCons (pLoc 0) (eCons (pOf (eCon (.cls 20))) eNil)))) (eCons (eUse (eB (fIsX2 mroT nX ksT) (eCons (pLoc 0) (eCons (pOf (eCon (.cls 21))) eNil)))) (eCons (eUse (eB (fIsX2 mroT nX ksT) (eCons (pLoc 0) (eCons (pOf (eCon (.cls 22))) eNil)))) eNil))))))))
    (sSeq (sIf (PI.tOr (t2 fNe (pOf (eM2 fCountL fCountT (pLoc 1) (eCons (pOf (eCon (.bl true))) eNil))) (pOf (eCon (.int 1)))) (t2 fEq (pOf (eB (fIsX2 mroT nX ksT) (eCons (pLoc 0) (eCons (pOf (eCon (.cls 6))) eNil)))) (pOf (eB (fIsX2 mroT nX ksT) (eCons (pLoc 0) (eCons (pOf (eCon (.cls 7))) eNil)))))) (sRet (eTup (eCons (eUse (eCon (.str [111, 116, 104, 101, 114]))) eNil))) sPass)
    (sSeq (sIf (PI.tAnd (tTruN (pOf (eB (fIsX2 mroT nX ksT) (eCons (pLoc 0) (eCons (pOf (eCon (.cls 6))) eNil))))) (PI.tNot (tTruN (pOf (eB (fIsX2 mroT nX ksT) (eCons (pLoc 0) (eCons (pOf (eCon (.ty "ValueError"))) eNil))))))) (sRet (eTup (eCons (eUse (eCon (.str [111, 116, 104, 101, 114]))) eNil))) sPass)
    (sSeq (sIf (PI.tAnd (tTruN (pOf (eB (fIsX2 mroT nX ksT) (eCons (pLoc 0) (eCons (pOf (eCon (.cls 7))) eNil))))) (PI.tNot (tTruN (pOf (eB (fIsX2 mroT nX ksT) (eCons (pLoc 0) (eCons (pOf (eCon (.ty "LookupError"))) eNil))))))) (sRet (eTup (eCons (eUse (eCon (.str [111, 116, 104, 101, 114]))) eNil))) sPass)
    (sSeq (sIf (tTruN (pOf (eB (fIsX2 mroT nX ksT) (eCons (pLoc 0) (eCons (pOf (eCon (.cls 19))) eNil))))) (sRet (eTup (eCons (eUse (eCon (.str [109, 97, 110, 121]))) (eCons (eUse (e1 (fXf 0) (pLoc 0))) (eCons (eUse (e1 (fXf 1) (pLoc 0))) eNil))))) sPass)
    (sSeq (sIf (tTruN (pOf (eB (fIsX2 mroT nX ksT) (eCons (pLoc 0) (eCons (pOf (eCon (.cls 2))) eNil))))) (sRet (eTup (eCons (eUse (eCon (.str [116, 101, 120, 116]))) (eCons (eUse (e1 (fXf 2) (pLoc 0))) eNil)))) sPass)
    (sSeq (sIf (tTruN (pOf (eB (fIsX2 mroT nX ksT) (eCons (pLoc 0) (eCons (pOf (eCon (.cls 20))) eNil))))) (sRet (eTup (eCons (eUse (eCon (.str [102, 117, 108, 108]))) (eCons (eUse (e1 (fXf 3) (pLoc 0))) (eCons (eUse (e1 (fXf 4) (pLoc 0))) eNil))))) sPass)
    (sSeq (sIf (tTruN (pOf (eB (fIsX2 mroT nX ksT) (eCons (pLoc 0) (eCons (pOf (eCon (.cls 21))) eNil))))) (sRet (eTup (eCons (eUse (eCon (.str [103, 111, 110, 101]))) (eCons (eUse (e1 (fXf 5) (pLoc 0))) (eCons (eUse (e1 (fXf 6) (pLoc 0))) eNil))))) sPass)
    (sSeq (sIf (tTruN (pOf (eB (fIsX2 mroT nX ksT) (eCons (pLoc 0) (eCons (pOf (eCon (.cls 22))) eNil))))) (sRet (eTup (eCons (eUse (eCon (.str [107, 101, 112, 116]))) (eCons (eUse (e1 (fXf 5) (pLoc 0))) (eCons (eUse (e1 (fXf 7) (pLoc 0))) eNil))))) sPass)
    (sSeq (sSetF 2 (eLst (eCons (eUse (eCon (.str [109, 97, 107, 101, 114]))) (eCons (eUse (eCon (.str [121, 101, 97, 114]))) (eCons (eUse (eCon (.str [115, 105, 122, 101]))) (eCons (eUse (eCon (.str [98, 111, 116, 116, 108, 101]))) (eCons (eUse (eCon (.str [98, 111, 116, 116, 108, 101, 115]))) (eCons (eUse (eCon (.str [114, 111, 111, 109, 115]))) (eCons (eUse (eCon (.str [104, 111, 108, 100]))) (eCons (eUse (eCon (.str [109, 111, 110, 116, 104]))) (eCons (eUse (eCon (.str [119, 104, 111]))) (eCons (eUse (eCon (.str [115, 101, 116]))) (eCons (eUse (eCon (.str [100, 101, 101, 100]))) (eCons (eUse (eCon (.str [119, 105, 115, 104, 101, 115]))) eNil))))))))))))))
    (sRet (eTup (eCons (eUse (e2 fIx (pOf (e2 fAdd (pLoc 2) (pOf (eLst (eCons (eUse (eCon (.str [108, 105, 110, 101]))) (eCons (eUse (eCon (.str [110, 117, 109, 98, 101, 114]))) (eCons (eUse (eCon (.str [112, 108, 97, 99, 101]))) eNil))))))) (pOf (eM2 fIndexL fIndexT (pLoc 1) (eCons (pOf (eCon (.bl true))) eNil))))) eNil)))))))))))))))))
/-! _law_kind_of -/
def m__law_kind_of : FT := mkF 1 1 (sRet (eTup (eCons (eUse (e1 (fFld 5 8) (pLoc 0))) (eCons (eUse (e1 (fFld 5 9) (pLoc 0))) (eCons (eUse (e1 (fFld 5 10) (pLoc 0))) eNil)))))
/-! _law_bottles -/
def m__law_bottles : FT := mkF 3 5 (sRet (eLc (gNm 3) (itSeq (eLc (gNm 4) (itR1 (eCons (pLoc 2) eNil)) tYes (eUse (e2 fIx (pLoc 1) (pOf (eCallD m__law_take [] (eCons (eUse (eLoc 0)) (eCons (eUse (eB fLen (eCons (pLoc 1) eNil))) eNil)))))) [4])) tYes (eUse (eCallD m_Bottle [] (eCons (eUse (e2 fIx (pLoc 3) (pOf (eCon (.int 0))))) (eCons (eUse (e2 fIx (pLoc 3) (pOf (eCon (.int 1))))) (eCons (eUse (e2 fIx (pLoc 3) (pOf (eCon (.int 2))))) eNil))))) [3]))
/-! _law_heard -/
def m__law_heard : FT := mkF 2 5 (sSeq (sTryW nX 3 subT (hotOf m__law_word) (sSetF 2 (eIte (t2 fEq (pOf (eB fReprA (eCons (pLoc 1) eNil))) (pOf (eCon (.str [55, 53])))) (eCallD m_read [(.int 75)] (eCons (eUse (eLoc 0)) eNil)) (eCallK m_read [.p 0, .k 0] [(.int 75)] (eCons (eUse (eLoc 0)) eNil) (eCons (eUse (eLoc 1)) eNil)))))
    (sRet (eLc (gNm 4) (itSeq (eLoc 2)) tYes (eUse (eCallD m__law_kind_of [] (eCons (eUse (eLoc 4)) eNil))) [4])))
/-! _law_written_so -/
def m__law_written_so : FT := mkF 1 2 (sTryW nX 1 subT (hotOf m__law_word) (sRet (eCallD m_written [] (eCons (eUse (eLoc 0)) eNil))))
/-! law -/
def l_law_3 : EM Fl := (sIf (PI.tOr (PI.tNot (tTruN (pOf (eB (fIsU 5 6) (eCons (pLoc 10) (eCons (pOf (eCon (.ty "list"))) eNil)))))) (t2 fNeM (pLoc 10) (pOf (eLst eNil)))) (sSeq (sSetF 11 (eBU (fReprN 5 m_Bottle___repr__) (eCons (eUse (eLoc 10)) eNil)))
    (sIf (PI.tOr (t2 fNe (pOf (eCallD m__law_written_so [] (eCons (eUse (eLoc 10)) eNil))) (pOf (eTup (eCons (eUse (eCon (.str [98, 111, 116, 116, 108, 101, 115]))) eNil)))) (t2 fNe (pOf (eBU (fReprN 5 m_Bottle___repr__) (eCons (eUse (eLoc 10)) eNil))) (pLoc 11))) (sRet (eCon (.bl false))) sPass)) sPass)
def l_law_5 : EM Fl := (sIf (t2 fNe (pOf (eCallD m__law_heard [] (eCons (eUse (eLoc 13)) (eCons (eUse (eLoc 12)) eNil)))) (pOf (eTup (eCons (eUse (eCon (.str [115, 105, 122, 101]))) eNil)))) (sRet (eCon (.bl false))) sPass)
def l_law_4 : EM Fl := (sFor (gNm 13) (itSeq (eLst (eCons (eUse (eCon (.str [97, 32, 49, 57, 53, 48]))) (eCons (eUse (eCon (.str [120]))) (eCons (eUse (eCon .non)) (eCons (eUse (eLoc 8)) eNil)))))) l_law_5)
def l_law_6 : EM Fl := (sIf (t2 fNe (pOf (eCallD m__law_heard [] (eCons (eUse (eLoc 13)) (eCons (eUse (e2 fIx (pOf (eLst (eCons (eUse (eCon (.int 75))) (eCons (eUse (eCon (.int 37))) (eCons (eUse (eCon (.int 150))) eNil))))) (pOf (eCallD m__law_take [] (eCons (eUse (eLoc 2)) (eCons (eUse (eCon (.int 3))) eNil)))))) eNil)))) (pOf (eTup (eCons (eUse (eCon (.str [116, 101, 120, 116]))) (eCons (eUse (eCon (.int 0))) eNil))))) (sRet (eCon (.bl false))) sPass)
def l_law_2 : EM Fl := (sSeq (sSetF 5 (eCallD m__law_bottles [] (eCons (eUse (eLoc 2)) (eCons (eUse (eLoc 3)) (eCons (eUse (eCallD m__law_take [] (eCons (eUse (eLoc 2)) (eCons (eUse (eCon (.int 5))) eNil)))) eNil)))))
    (sSeq (sAsg (gTup [(gNm 6), (gNm 7)]) (eTup (eCons (eUse (eCallD m__law_take [] (eCons (eUse (eLoc 2)) (eCons (eUse (e2 fAdd (pOf (eB fLen (eCons (pLoc 5) eNil))) (pOf (eCon (.int 1))))) eNil)))) (eCons (eUse (eLst (eCons (eUse (eCon .non)) (eCons (eUse (eCon (.str [97, 32, 49, 57, 53, 48]))) (eCons (eUse (eCon (.int 7))) (eCons (eUse (eTup (eCons (eUse (eCon (.str [97]))) (eCons (eUse (eCon (.int 1950))) (eCons (eUse (eCon (.int 75))) eNil))))) (eCons (eUse (eLst eNil)) (eCons (eUse (eCallD m__law_odd [] (eCons (eUse (eLoc 2)) eNil))) eNil)))))))) eNil))))
    (sSeq (sSetF 8 (e2 fIx (pLoc 7) (pOf (eCallD m__law_take [] (eCons (eUse (eLoc 2)) (eCons (eUse (eCon (.int 6))) eNil))))))
    (sSeq (sSetF 9 (eLst (eCons (eUse (e2 fAdd (pOf (e2 fAdd (pOf (eCut (pLoc 5) eNoPart (ePart (pLoc 6)))) (pOf (eLst (eCons (eUse (eLoc 8)) eNil))))) (pOf (eCut (pLoc 5) (ePart (pLoc 6)) eNoPart)))) (eCons (eUse (eB fTuple (eCons (pLoc 5) eNil))) (eCons (eUse (eDicN (0) 5)) (eCons (eUse (eCon .non)) (eCons (eUse (eCon (.str [97, 32, 49, 57, 53, 48]))) (eCons (eUse (eLst (eCons (eUse (eLoc 5)) eNil))) (eCons (eUse (eCallD m_Bottle [(.int 75)] (eCons (eUse (eCon (.str [97]))) (eCons (eUse (eCon (.int 1950))) eNil)))) (eCons (eUse (eLoc 8)) eNil))))))))))
    (sSeq (sFor (gNm 10) (itSeq (eLoc 9)) l_law_3)
    (sSeq (sFor (gNm 12) (itSeq (eLst (eCons (eUse (eCon (.int 0))) (eCons (eUse (eCon (.int 36))) (eCons (eUse (eCon (.int 74))) (eCons (eUse (eCon (.int 76))) (eCons (eUse (eCon (.int 149))) (eCons (eUse (eCon (.bl true))) (eCons (eUse (eCon .non)) (eCons (eUse (eCon (.str [55, 53]))) (eCons (eUse (eTup (eCons (eUse (eCon (.int 75))) eNil))) (eCons (eUse (e2 fPow (pOf (eCon (.int 10))) (pOf (eCon (.int 39))))) (eCons (eUse (eLoc 8)) eNil))))))))))))) l_law_4)
    (sFor (gNm 13) (itSeq (eLst (eCons (eUse (eCon .non)) (eCons (eUse (eCon (.int 0))) (eCons (eUse (eLst (eCons (eUse (eCon (.str [97, 32, 49, 57, 53, 48]))) eNil))) (eCons (eUse (eTup (eCons (eUse (eCon (.str [97, 32, 49, 57, 53, 48]))) eNil))) (eCons (eUse eDic0) (eCons (eUse (eCallD m_Bottle [(.int 75)] (eCons (eUse (eCon (.str [97]))) (eCons (eUse (eCon (.int 1950))) eNil)))) (eCons (eUse (eLoc 5)) eNil))))))))) l_law_6)))))))
def l_law_1 : EM Fl := (sSeq (sSetF 2 (eShare (eCallD m__law_pot [] (eCons (eUse (eCallD m__law_cell_at [] (eCons (eUse (eLoc 0)) (eCons (eUse (eLoc 1)) eNil)))) eNil))))
    (sSeq (sSetF 3 (eCallD m__law_kinds [] (eCons (eUse (eLoc 2)) eNil)))
    (sFor (gNm 4) (itR1 (eCons (pOf (eCon (.int 8))) eNil)) l_law_2)))
def m_law : FT := mkF 1 14 (sSeq (sFor (gNm 1) (itR1 (eCons (pOf (eB fMax (eCons (pOf (eCon (.int 1))) (eCons (pOf (eB fMinD (eCons (pOf (eB fLen (eCons (pLoc 0) eNil))) (eCons (pOf (eCon (.int 4))) eNil)))) eNil)))) eNil)) l_law_1)
    (sRet (eCon (.bl true))))
end
end L73
/-! PIRel: how my values stand in the hand layer's abstract heap; the readings of my combinators. -/
namespace PI
open PySem PySem.Spec PyProof.Rows L2
abbrev St := L2.St
/-- where the defs, the classes stand; the fields' names -/
structure Ga where
  K : PySem.W.Frag
  fa : Nat → Addr
  ca : Nat → Addr
  fld : Nat → Str
  xs : Addr → Nat → Option Addr → Prop
  pg : Bool
/-- nothing is being shown in the moment (or, where pg is false, it is known what is) -/
abbrev GdOk (p : Bool) (A : Around) : Prop := (p = true → A.guards = some []) ∧ ∃ g, A.guards = some g
class PgT (G : Ga) : Prop where
  h : G.pg = true
/-- foreign objects (never touched), the shared changeable objects' addresses. A frozen object is one that the layer has locked -/
structure Gs where
  Z : Addr → Prop
  μ : List Addr
section
variable (G : Ga) (g : Gs) (H : Hp)
/-- a frozen list -/
def LF (K : PySem.W.Frag) (a : Addr) (vs : List V) : Prop := (∃ o, H a = some (.frz o (.lst vs))) ∨
  ∃ (its : List Value) (n : Nat), K.lookup a = some { cls := .type "list", data := .seq its.toArray n } ∧ its.length ≤ sizeLine ∧ Vals vs its
/-- a tuple of which all is known -/
def SqS (K : PySem.W.Frag) (a : Addr) (vs : List V) : Prop := (∃ o, H a = some (.frz o (.tup vs)) ∧ o.dict = none) ∨
  ∃ (o : Obj) (its : Array Value) (n : Nat), K.lookup a = some o ∧ o.cls = .type "tuple" ∧ o.dict = none ∧ o.data = .seq its n ∧ its.size ≤ sizeLine ∧ Vals vs its.toList
mutual
def Is : D → V → Prop
  | .non, v => v = .non
  | .bl b, v => v = .bl b
  | .int i, v => v = .int i
  | .str cs, v => v = .str ⟨cs.toArray⟩ ∧ cs.length ≤ sizeLine
  | .tup ds, v => ∃ a vs, v = .ref a ∧ SqS H G.K a vs ∧ IsL ds vs
  | .tupw ds, v => ∃ a vs, v = .ref a ∧ H a = some (.tup vs) ∧ IsL ds vs
  | .lst ds, v => ∃ a vs, v = .ref a ∧ LF H G.K a vs ∧ IsL ds vs
  | .dic kvs, v => ∃ a o, v = .ref a ∧ ((∃ ks, H a = some (.frz o (.dK ks)) ∧ IsK kvs ks) ∨ ∃ ks, H a = some (.frz o (.dT ks)) ∧ kvs ≠ [] ∧ IsT kvs ks)
  | .ins c fs, v => ∃ a dx vfs o, v = .ref a ∧ H a = some (.frz o (.ins (G.ca c) dx vfs)) ∧ IsFl fs vfs
  | .exn c fs, v => ∃ a dd, v = .ref a ∧ G.xs a c dd ∧ ((dd = none ∧ fs = []) ∨ ∃ d vfs, dd = some d ∧ H d = some (.xd vfs) ∧ IsFx fs vfs)
  | .obj n, v => ∃ a, v = .ref a ∧ g.μ[n]? = some a
  | .fn f, v => v = .ref (G.fa f)
  | .cls c, v => v = .ref (G.ca c)
  | .ty n, v => v = .ty n
def IsL : List D → List V → Prop
  | [], [] => True
  | d :: ds, v :: vs => Is d v ∧ IsL ds vs
  | _, _ => False
def IsK : List (D × D) → List (Key × V) → Prop
  | [], [] => True
  | (k, d) :: r, (q, v) :: s => Is k (kV q) ∧ Is d v ∧ IsK r s
  | _, _ => False
def IsT : List (D × D) → List (List Key × V) → Prop
  | [], [] => True
  | (.tup ks, d) :: r, (q, v) :: s => IsL ks (q.map kV) ∧ Is d v ∧ IsT r s
  | _, _ => False
def IsFl : List (Nat × D) → List (Str × V) → Prop
  | [], [] => True
  | (f, d) :: r, (q, v) :: s => q = G.fld f ∧ Is d v ∧ IsFl r s
  | _, _ => False
/-- an exception's fields, by lookup -/
def IsFx : List (Nat × D) → List (Str × V) → Prop
  | [], _ => True
  | (f, d) :: r, vfs => (∃ v, vfs.lookup (G.fld f) = some v ∧ Is d v) ∧ IsFx r vfs
end
/-- a changeable object's content -/
def OIs (a : Addr) : MO → Prop
  | .lst ds => ∃ vs, H a = some (.lst vs) ∧ IsL G g H ds vs
  | .dic kvs => (∃ ks, H a = some (.dK ks) ∧ IsK G g H kvs ks) ∨ ∃ ks, H a = some (.dT ks) ∧ kvs ≠ [] ∧ IsT G g H kvs ks
  | .ins c fs => ∃ dx vfs, H a = some (.ins (G.ca c) dx vfs) ∧ IsFl G g H fs vfs
end
/-- what values lean on -/
structure NextI (g : Gs) (H : Hp) (g' : Gs) (H' : Hp) : Prop where
  μ : ∃ l, g'.μ = g.μ ++ l
  kI : ∀ a o, H a = some o → ¬ Mut (some o) → H' a = some o
/-- what stays from one state to a later one -/
structure Next (g : Gs) (H : Hp) (g' : Gs) (H' : Hp) : Prop where
  Z : g'.Z = g.Z
  μ : ∃ l, g'.μ = g.μ ++ l
  kZ : ∀ a, g.Z a → H' a = H a
  kI : ∀ a o, H a = some o → ¬ Mut (some o) → H' a = some o
theorem Next.i {g g' : Gs} {H H' : Hp} (N : Next g H g' H') : NextI g H g' H' := ⟨N.μ, N.kI⟩
theorem Next.refl (g : Gs) (H : Hp) : Next g H g H := ⟨rfl, ⟨[], by simp⟩, fun _ _ => rfl, fun _ _ h _ => h⟩
theorem Next.trans {g g1 g2 : Gs} {H H1 H2 : Hp} (a : Next g H g1 H1) (b : Next g1 H1 g2 H2) : Next g H g2 H2 where
  Z := b.Z.trans a.Z
  μ := by
    obtain ⟨l, e⟩ := a.μ
    obtain ⟨l', e'⟩ := b.μ
    exact ⟨l ++ l', by rw [e', e, List.append_assoc]⟩
  kZ := fun x h => (b.kZ x (by rw [a.Z]; exact h)).trans (a.kZ x h)
  kI := fun x o h n => b.kI x o (a.kI x o h n) n
section
variable {G : Ga} {g g' : Gs} {H H' : Hp}
theorem LF.nextI (N : NextI g H g' H') {K : PySem.W.Frag} {a : Addr} {vs : List V} (h : LF H K a vs) : LF H' K a vs := by
  rcases h with ⟨o, h⟩ | h
  · exact .inl ⟨o, N.kI a _ h fun z => z⟩
  · exact .inr h
theorem LF.sq {K : PySem.W.Frag} {a : Addr} {vs : List V} (h : LF H K a vs) : SqL K H a vs := by
  rcases h with ⟨o, h⟩ | ⟨its, n, e, l, r⟩
  · exact .inl (.inr ⟨o, h⟩)
  · exact .inr ⟨_, its.toArray, n, e, rfl, rfl, rfl, by simpa using l, by simpa using r⟩
theorem sqT_nextI (N : NextI g H g' H') {K : PySem.W.Frag} {a : Addr} {vs : List V} (h : SqT K H a vs) : SqT K H' a vs := by
  rcases h with (h | ⟨o, h⟩) | h
  · exact .inl (.inl (N.kI a _ h fun z => z))
  · exact .inl (.inr ⟨o, N.kI a _ h fun z => z⟩)
  · exact .inr h
theorem SqS.nextI (N : NextI g H g' H') {K : PySem.W.Frag} {a : Addr} {vs : List V} (h : SqS H K a vs) : SqS H' K a vs := by
  rcases h with ⟨o, h, d⟩ | h
  · exact .inl ⟨o, N.kI a _ h fun z => z, d⟩
  · exact .inr h
theorem SqS.t {K : PySem.W.Frag} {a : Addr} {vs : List V} (h : SqS H K a vs) : SqT K H a vs := by
  rcases h with ⟨o, h, _⟩ | ⟨o, its, n, e1, e2, _, e3⟩
  · exact .inl (.inr ⟨o, h⟩)
  · exact .inr ⟨o, its, n, e1, e2, e3⟩
mutual
theorem Is.nextI (N : NextI g H g' H') : ∀ {d : D} {v : V}, Is G g H d v → Is G g' H' d v
  | .non, _, h => h
  | .bl _, _, h => h
  | .int _, _, h => h
  | .str _, _, h => h
  | .tup ds, _, h => by
    simp only [Is] at h ⊢
    obtain ⟨a, vs, e, q, r⟩ := h
    exact ⟨a, vs, e, q.nextI N, IsL.nextI N r⟩
  | .tupw ds, _, h => by
    simp only [Is] at h ⊢
    obtain ⟨a, vs, e, q, r⟩ := h
    exact ⟨a, vs, e, N.kI a _ q fun z => z, IsL.nextI N r⟩
  | .lst ds, _, h => by
    simp only [Is] at h ⊢
    obtain ⟨a, vs, e, q, r⟩ := h
    exact ⟨a, vs, e, q.nextI N, IsL.nextI N r⟩
  | .dic kvs, _, h => by
    simp only [Is] at h ⊢
    obtain ⟨a, o, e, q⟩ := h
    refine ⟨a, o, e, ?_⟩
    rcases q with ⟨ks, q, r⟩ | ⟨ks, q, r⟩
    · exact .inl ⟨ks, N.kI a _ q fun z => z, IsK.nextI N r⟩
    · exact .inr ⟨ks, N.kI a _ q fun z => z, r.1, IsT.nextI N r.2⟩
  | .ins c fs, _, h => by
    simp only [Is] at h ⊢
    obtain ⟨a, dx, vfs, o, e, q, r⟩ := h
    exact ⟨a, dx, vfs, o, e, N.kI a _ q fun z => z, IsFl.nextI N r⟩
  | .exn c fs, _, h => by
    simp only [Is] at h ⊢
    obtain ⟨a, dd, e, q, r⟩ := h
    refine ⟨a, dd, e, q, ?_⟩
    rcases r with r | ⟨d, vfs, e2, e3, r⟩
    · exact .inl r
    · exact .inr ⟨d, vfs, e2, N.kI d _ e3 fun z => z, IsFx.nextI N r⟩
  | .obj n, _, h => by
    simp only [Is] at h ⊢
    obtain ⟨a, e, q⟩ := h
    obtain ⟨l, el⟩ := N.μ
    refine ⟨a, e, ?_⟩
    rw [el, List.getElem?_append_left (List.getElem?_eq_some_iff.mp q).1]
    exact q
  | .fn _, _, h => h
  | .cls _, _, h => h
  | .ty _, _, h => h
theorem IsL.nextI (N : NextI g H g' H') : ∀ {ds : List D} {vs : List V}, IsL G g H ds vs → IsL G g' H' ds vs
  | [], [], _ => by simp only [IsL]
  | d :: ds, v :: vs, h => by
    simp only [IsL] at h ⊢
    exact ⟨Is.nextI N h.1, IsL.nextI N h.2⟩
  | [], _ :: _, h => by simp only [IsL] at h
  | _ :: _, [], h => by simp only [IsL] at h
theorem IsK.nextI (N : NextI g H g' H') : ∀ {ds : List (D × D)} {vs : List (Key × V)}, IsK G g H ds vs → IsK G g' H' ds vs
  | [], [], _ => by simp only [IsK]
  | (k, d) :: ds, (q, v) :: vs, h => by
    simp only [IsK] at h ⊢
    exact ⟨Is.nextI N h.1, Is.nextI N h.2.1, IsK.nextI N h.2.2⟩
  | [], _ :: _, h => by simp only [IsK] at h
  | _ :: _, [], h => by simp only [IsK] at h
theorem IsT.nextI (N : NextI g H g' H') : ∀ {ds : List (D × D)} {vs : List (List Key × V)}, IsT G g H ds vs → IsT G g' H' ds vs
  | [], [], _ => by simp only [IsT]
  | (k, d) :: ds, (q, v) :: vs, h => by
    cases k with
    | tup ks =>
      simp only [IsT] at h ⊢
      exact ⟨IsL.nextI N h.1, Is.nextI N h.2.1, IsT.nextI N h.2.2⟩
    | _ => simp only [IsT] at h
  | [], _ :: _, h => by simp only [IsT] at h
  | _ :: _, [], h => by simp only [IsT] at h
theorem IsFl.nextI (N : NextI g H g' H') : ∀ {ds : List (Nat × D)} {vs : List (Str × V)}, IsFl G g H ds vs → IsFl G g' H' ds vs
  | [], [], _ => by simp only [IsFl]
  | (k, d) :: ds, (q, v) :: vs, h => by
    simp only [IsFl] at h ⊢
    exact ⟨h.1, Is.nextI N h.2.1, IsFl.nextI N h.2.2⟩
  | [], _ :: _, h => by simp only [IsFl] at h
  | _ :: _, [], h => by simp only [IsFl] at h
theorem IsFx.nextI (N : NextI g H g' H') : ∀ {ds : List (Nat × D)} {vs : List (Str × V)}, IsFx G g H ds vs → IsFx G g' H' ds vs
  | [], _, _ => by simp only [IsFx]
  | (k, d) :: ds, vs, h => by
    simp only [IsFx] at h ⊢
    obtain ⟨⟨v, e, q⟩, r⟩ := h
    exact ⟨⟨v, e, Is.nextI N q⟩, IsFx.nextI N r⟩
end
theorem Is.next (N : Next g H g' H') {d : D} {v : V} (h : Is G g H d v) : Is G g' H' d v := Is.nextI N.i h
theorem IsL.next (N : Next g H g' H') {d : List D} {v : List V} (h : IsL G g H d v) : IsL G g' H' d v := IsL.nextI N.i h
theorem IsK.next (N : Next g H g' H') {d : List (D × D)} {v : List (Key × V)} (h : IsK G g H d v) : IsK G g' H' d v := IsK.nextI N.i h
theorem IsT.next (N : Next g H g' H') {d : List (D × D)} {v : List (List Key × V)} (h : IsT G g H d v) : IsT G g' H' d v := IsT.nextI N.i h
theorem IsFx.next (N : Next g H g' H') {d : List (Nat × D)} {v : List (Str × V)} (h : IsFx G g H d v) : IsFx G g' H' d v := IsFx.nextI N.i h
theorem IsFl.next (N : Next g H g' H') {d : List (Nat × D)} {v : List (Str × V)} (h : IsFl G g H d v) : IsFl G g' H' d v := IsFl.nextI N.i h
/-- a changeable object that is as it was -/
theorem OIs.nextI (N : NextI g H g' H') {a : Addr} (k : H' a = H a) : ∀ {o : MO}, OIs G g H a o → OIs G g' H' a o
  | .lst _, ⟨vs, q, r⟩ => ⟨vs, k.trans q, r.nextI N⟩
  | .dic _, .inl ⟨ks, q, r⟩ => .inl ⟨ks, k.trans q, r.nextI N⟩
  | .dic _, .inr ⟨ks, q, r⟩ => .inr ⟨ks, k.trans q, r.1, r.2.nextI N⟩
  | .ins _ _, ⟨dx, vfs, q, r⟩ => ⟨dx, vfs, k.trans q, r.nextI N⟩
theorem OIs.next (N : Next g H g' H') {a : Addr} (k : H' a = H a) {o : MO} (h : OIs G g H a o) : OIs G g' H' a o := h.nextI N.i k
theorem OIs.some {a : Addr} {o : MO} (h : OIs G g H a o) : ∃ u, H a = some u := by
  cases o with
  | lst ds => obtain ⟨vs, q, _⟩ := h; exact ⟨_, q⟩
  | dic kvs => rcases h with ⟨ks, q, _⟩ | ⟨ks, q, _⟩ <;> exact ⟨_, q⟩
  | ins c fs => obtain ⟨dx, vfs, q, _⟩ := h; exact ⟨_, q⟩
theorem OIs.mut {a : Addr} {o : MO} (h : OIs G g H a o) : Mut (H a) := by
  cases o with
  | lst ds => obtain ⟨vs, q, _⟩ := h; rw [q]; trivial
  | dic kvs => rcases h with ⟨ks, q, _⟩ | ⟨ks, q, _⟩ <;> (rw [q]; trivial)
  | ins c fs => obtain ⟨dx, vfs, q, _⟩ := h; rw [q]; trivial
theorem IsL.length : ∀ {ds : List D} {vs : List V}, IsL G g H ds vs → ds.length = vs.length
  | [], [], _ => rfl
  | d :: ds, v :: vs, h => by
    simp only [IsL] at h
    exact congrArg Nat.succ (IsL.length h.2)
  | [], _ :: _, h => by simp only [IsL] at h
  | _ :: _, [], h => by simp only [IsL] at h
theorem IsL.get : ∀ {ds : List D} {vs : List V} {i : Nat} {d : D}, IsL G g H ds vs → ds[i]? = some d → ∃ v, vs[i]? = some v ∧ Is G g H d v
  | [], [], _, _, _, e => by simp at e
  | d :: ds, v :: vs, 0, x, h, e => by
    simp only [IsL] at h
    simp at e
    subst e
    exact ⟨v, rfl, h.1⟩
  | d :: ds, v :: vs, i + 1, x, h, e => by
    simp only [IsL] at h
    obtain ⟨w, h1, h2⟩ := IsL.get (i := i) h.2 (by simpa using e)
    exact ⟨w, by simpa using h1, h2⟩
  | [], _ :: _, _, _, h, _ => by simp only [IsL] at h
  | _ :: _, [], _, _, h, _ => by simp only [IsL] at h
theorem IsL.append : ∀ {ds es : List D} {vs ws : List V}, IsL G g H ds vs → IsL G g H es ws → IsL G g H (ds ++ es) (vs ++ ws)
  | [], _, [], _, _, h => h
  | d :: ds, es, v :: vs, ws, h, k => by
    simp only [IsL] at h
    simp only [List.cons_append, IsL]
    exact ⟨h.1, IsL.append h.2 k⟩
  | [], _, _ :: _, _, h, _ => by simp only [IsL] at h
  | _ :: _, _, [], _, h, _ => by simp only [IsL] at h
theorem IsL.take : ∀ {ds : List D} {vs : List V} (n : Nat), IsL G g H ds vs → IsL G g H (ds.take n) (vs.take n)
  | _, _, 0, _ => by simp [IsL]
  | [], [], _ + 1, _ => by simp [IsL]
  | d :: ds, v :: vs, n + 1, h => by
    simp only [IsL] at h
    simp only [List.take_succ_cons, IsL]
    exact ⟨h.1, IsL.take n h.2⟩
  | [], _ :: _, _, h => by simp only [IsL] at h
  | _ :: _, [], _, h => by simp only [IsL] at h
theorem IsL.drop : ∀ {ds : List D} {vs : List V} (n : Nat), IsL G g H ds vs → IsL G g H (ds.drop n) (vs.drop n)
  | _, _, 0, h => h
  | [], [], _ + 1, _ => by simp [IsL]
  | d :: ds, v :: vs, n + 1, h => by
    simp only [IsL] at h
    simp only [List.drop_succ_cons]
    exact IsL.drop n h.2
  | [], _ :: _, _, h => by simp only [IsL] at h
  | _ :: _, [], _, h => by simp only [IsL] at h
end
/-! ### the whole state -/
structure HRel (G : Ga) (g : Gs) (H : Hp) (M : MH) : Prop where
  ZH : ∀ a, g.Z a → ∃ o, H a = some o
  len : g.μ.length = M.length
  nd : g.μ.Nodup
  mZ : ∀ a ∈ g.μ, ¬ g.Z a
  ob : ∀ (n : Nat) (a : Addr) (o : MO), g.μ[n]? = some a → M[n]? = some o → OIs G g H a o
structure Rel (G : Ga) (g : Gs) (σ : St) (H : Hp) (env : Env) (M : MH) : Prop extends HRel G g H M where
  el : env.length = σ.length
  sl : ∀ (i : Nat) (d : D), env[i]? = some (some (.val d)) → ∃ v, σ[i]? = some (some v) ∧ Is G g H d v
  ow : ∀ (i : Nat) (o : MO), env[i]? = some (some (.own o)) → ∃ a, σ[i]? = some (some (.ref a)) ∧ OIs G g H a o ∧ ¬ g.Z a ∧ a ∉ g.μ
  di : ∀ (i j : Nat) (a : Addr) (o o' : MO), env[i]? = some (some (.own o)) → env[j]? = some (some (.own o')) → σ[i]? = some (some (.ref a)) → σ[j]? = some (some (.ref a)) → i = j
/-- only new objects -/
def Grow (H H' : Hp) : Prop := ∀ a o, H a = some o → H' a = some o
theorem Grow.refl (H : Hp) : Grow H H := fun _ _ h => h
theorem Grow.upd {H : Hp} {p : Addr} {o : HO} (n : H p = none) : Grow H (upd H p o) := fun a u h => by rw [upd_ne (ne_of_none h n)]; exact h
section
variable {G : Ga} {g g' : Gs} {σ : St} {H H' : Hp} {env : Env} {M : MH}
theorem HRel.grows (R : HRel G g H M) (w : Grow H H') : Next g H g H' :=
  ⟨rfl, ⟨[], by simp⟩, fun a h => by obtain ⟨o, e⟩ := R.ZH a h; rw [e, w a o e], fun a o h _ => w a o h⟩
theorem HRel.mu (R : HRel G g H M) {a : Addr} (h : a ∈ g.μ) : ∃ o, H a = some o := by
  obtain ⟨n, hn, e⟩ := List.mem_iff_getElem.mp h
  have hm : n < M.length := by rw [← R.len]; exact hn
  exact (R.ob n a M[n] (by rw [List.getElem?_eq_getElem hn, e]) (List.getElem?_eq_getElem hm)).some
theorem HRel.grow (R : HRel G g H M) (w : Grow H H') : HRel G g H' M :=
  ⟨fun a h => let ⟨o, e⟩ := R.ZH a h; ⟨o, w a o e⟩, R.len, R.nd, R.mZ, fun n a o h1 h2 => by
    have q := R.ob n a o h1 h2
    obtain ⟨u, e⟩ := q.some
    exact q.next (R.grows w) (by rw [e, w a u e])⟩
theorem Rel.grow (R : Rel G g σ H env M) (w : Grow H H') : Rel G g σ H' env M :=
  ⟨R.toHRel.grow w, R.el, fun i d h => let ⟨v, e, q⟩ := R.sl i d h; ⟨v, e, q.next (R.toHRel.grows w)⟩, fun i o h => by
    obtain ⟨a, e, q, r⟩ := R.ow i o h
    obtain ⟨u, eu⟩ := q.some
    exact ⟨a, e, q.next (R.toHRel.grows w) (by rw [eu, w a u eu]), r⟩, R.di⟩
end
/-! ### what is told of results -/
section
variable (G : Ga) (g : Gs) (H : Hp) (σ : St) (env : Env)
/-- a result: a value, or a new object that nobody holds -/
def SVIs (v : V) : SV → Prop
  | .val d => Is G g H d v
  | .own o => ∃ a, v = .ref a ∧ OIs G g H a o ∧ ¬ g.Z a ∧ a ∉ g.μ ∧ ∀ (i : Nat) (o' : MO), env[i]? = some (some (.own o')) → σ[i]? ≠ some (some (.ref a))
def PVIs (v : V) : PV → Prop
  | .v d => Is G g H d v
  | .sl i => σ[i]? = some (some v)
/-- what an operand holds, whoever holds it -/
def Vw (d : D) (v : V) : Prop := Is G g H d v ∨ ∃ a o, v = .ref a ∧ OIs G g H a o ∧ d = o.snap
/-- the exception in the air -/
def XIs (cls : Value) (d : Option Addr) (x : Xn) : Prop := cls = .ref (G.ca x.c) ∧ match d with
  | none => x.fs = []
  | some dd => ∃ vfs, H dd = some (.xd vfs) ∧ IsFx G g H x.fs vfs
end
def PostR (G : Ga) (W : WX) (g : Gs) (H : Hp) (σ : St) {α : Type} (r : Res α) (ok : α → Env → MH → Prop) : Prop := match r with
  | .ok a e m => ok a e m
  | .err x e m => ∀ (H' : Hp) (g' : Gs) (cls : Value) (d : Option Addr), Next g H g' H' → Rel G g' σ H' e m → XIs G g' H' cls d x → W cls d σ H'
  | .stuck => False
/-- the reading of an evaluation -/
def tV (G : Ga) (W : WX) {α : Type} (RV : Gs → Hp → St → Env → V → α → Prop) (m : EM α) : TE := fun σ H Q => ∃ g e M, Rel G g σ H e M ∧
  PostR G W g H σ (m e M) fun a e' M' => ∀ (v : V) (H' : Hp) (g' : Gs), Next g H g' H' → Rel G g' σ H' e' M' → RV g' H' σ e' v a → Q v H'
abbrev tE (G : Ga) (W : WX) (m : EM SV) : TE := tV G W (fun g H σ e v s => SVIs G g H σ e v s) m
abbrev tP (G : Ga) (W : WX) (m : EM PV) : TE := tV G W (fun g H σ _ v p => PVIs G g H σ v p) m
abbrev tU (G : Ga) (W : WX) (m : EM D) : TE := tV G W (fun g H _ _ v d => Is G g H d v) m
def tT (G : Ga) (W : WX) (m : EM Bool) : TT := fun σ H Q => ∃ g e M, Rel G g σ H e M ∧
  PostR G W g H σ (m e M) fun b e' M' => ∀ (H' : Hp) (g' : Gs), Next g H g' H' → Rel G g' σ H' e' M' → Q b H'
def tA (G : Ga) (W : WX) (m : EM (List D)) : TA := fun σ H Q => ∃ g e M, Rel G g σ H e M ∧
  PostR G W g H σ (m e M) fun ds e' M' => ∀ (vs : List V) (H' : Hp) (g' : Gs), Next g H g' H' → Rel G g' σ H' e' M' → IsL G g' H' ds vs → Q vs H'
def PVL (G : Ga) (g : Gs) (H : Hp) (σ : St) : List PV → List V → Prop
  | [], [] => True
  | p :: ps, v :: vs => PVIs G g H σ v p ∧ PVL G g H σ ps vs
  | _, _ => False
def tAP (G : Ga) (W : WX) (m : EM (List PV)) : TA := fun σ H Q => ∃ g e M, Rel G g σ H e M ∧
  PostR G W g H σ (m e M) fun ds e' M' => ∀ (vs : List V) (H' : Hp) (g' : Gs), Next g H g' H' → Rel G g' σ H' e' M' → PVL G g' H' σ ds vs → Q vs H'
/-- the reading of a statement -/
def PostS (G : Ga) (W : WX) (g : Gs) (H : Hp) (D : Ends) (r : Res Fl) : Prop := match r with
  | .ok .nx e' M' => ∀ (σ' : St) (H' : Hp) (g' : Gs), Next g H g' H' → Rel G g' σ' H' e' M' → D.nx σ' H'
  | .ok .bk e' M' => ∀ (σ' : St) (H' : Hp) (g' : Gs), Next g H g' H' → Rel G g' σ' H' e' M' → D.bk σ' H'
  | .ok .ct e' M' => ∀ (σ' : St) (H' : Hp) (g' : Gs), Next g H g' H' → Rel G g' σ' H' e' M' → D.ct σ' H'
  | .ok (.ret s) e' M' => ∀ (v : V) (H' : Hp) (g' : Gs), Next g H g' H' → HRel G g' H' M' → SVIs G g' H' [] [] v s → D.rt v H'
  | .err x e' M' => ∀ (σ' : St) (H' : Hp) (g' : Gs) (cls : Value) (d : Option Addr), Next g H g' H' → Rel G g' σ' H' e' M' → XIs G g' H' cls d x → W cls d σ' H'
  | .stuck => False
def tS (G : Ga) (W : WX) (m : EM Fl) : TS := fun D σ H => ∃ g e M, Rel G g σ H e M ∧ PostS G W g H D (m e M)
/-- only these slots have changed -/
def Only1 (is : List Nat) (σ σ' : St) : Prop := σ'.length = σ.length ∧ ∀ j, j ∉ is → σ'[j]? = σ[j]?
def tGt (G : Ga) (t : PI.TG) (is : List Nat) : L2.TG := fun v σ H Q => ∃ g e M d e', Rel G g σ H e M ∧ Is G g H d v ∧ t d e = some e' ∧ ∀ (σ' : St) (H' : Hp) (g' : Gs), Next g H g' H' → Rel G g' σ' H' e' M → Only1 is σ σ' → Q σ' H'
def tGts (G : Ga) (ts : List PI.TG) (is : List Nat) : L2.TGs := fun vs σ H Q => ∃ g e M ds e', Rel G g σ H e M ∧ IsL G g H ds vs ∧ gGo ts ds e = some e' ∧ ∀ (σ' : St) (H' : Hp) (g' : Gs), Next g H g' H' → Rel G g' σ' H' e' M → Only1 is σ σ' → Q σ' H'
/-- what a loop walks: the items, one after another -/
def ItIs (G : Ga) (g : Gs) (H : Hp) (J : It) (ds : List D) : Prop := ∀ (i : Nat) (g2 : Gs) (H2 : Hp), Next g H g2 H2 →
  (∀ d, ds[i]? = some d → J.go i H2 ∧ ∀ x H3, J.yld i H2 x H3 → Grow H2 H3 ∧ Is G g2 H3 d x) ∧ (ds.length ≤ i → J.stop i H2)
def tI (G : Ga) (W : WX) (m : EM (List D)) : TI := fun σ H R => ∃ g e M, Rel G g σ H e M ∧
  PostR G W g H σ (m e M) fun ds e' M' => ∀ (J : It) (H' : Hp) (g' : Gs), Next g H g' H' → Rel G g' σ H' e' M' → ItIs G g' H' J ds → ds.length ≤ sizeLine → R J H'
/-! ### judgements -/
abbrev PEI (X : Cx) (G : Ga) (W : WX) (e : Expr) (m : EM SV) : Prop := PE X e (tE G W m)
abbrev PPI (X : Cx) (G : Ga) (W : WX) (e : Expr) (m : EM PV) : Prop := PE X e (tP G W m)
abbrev PUI (X : Cx) (G : Ga) (W : WX) (e : Expr) (m : EM D) : Prop := PE X e (tU G W m)
abbrev PTI (X : Cx) (G : Ga) (W : WX) (e : Expr) (m : EM Bool) : Prop := PT X e (tT G W m)
abbrev PAI (X : Cx) (G : Ga) (W : WX) (es : List Expr) (m : EM (List D)) : Prop := PA X es (tA G W m)
abbrev PAPI (X : Cx) (G : Ga) (W : WX) (es : List Expr) (m : EM (List PV)) : Prop := PA X es (tAP G W m)
abbrev PGI (X : Cx) (G : Ga) (e : Expr) (t : PI.TG) (is : List Nat) : Prop := PG X e (tGt G t is)
abbrev PGsI (X : Cx) (G : Ga) (es : List Expr) (ts : List PI.TG) (is : List Nat) : Prop := PGs X es (tGts G ts is)
abbrev PII (X : Cx) (G : Ga) (W : WX) (tg e : Expr) (m : EM (List D)) : Prop := PI X tg e (tI G W m)
abbrev PSI (X : Cx) (G : Ga) (W : WX) (st : Stmt) (m : EM Fl) : Prop := PS X st (tS G W m)
abbrev PSsI (X : Cx) (G : Ga) (W : WX) (st : List Stmt) (m : EM Fl) : Prop := PSs X st (tS G W m)
theorem PE.imp {X : Cx} {e : Expr} {t t' : TE} (h : PE X e t) (w : ∀ σ H Q, t' σ H Q → t σ H Q) : PE X e t' := ⟨fun pins s σ H Q I q => h.run pins s σ H Q I (w σ H Q q)⟩
theorem PT.imp {X : Cx} {e : Expr} {t t' : TT} (h : PT X e t) (w : ∀ σ H Q, t' σ H Q → t σ H Q) : PT X e t' := ⟨fun pins s σ H Q I q => h.run pins s σ H Q I (w σ H Q q)⟩
theorem PW.imp {X : Cx} {e : Expr} {t t' : TT} (h : PW X e t) (w : ∀ σ H Q, t' σ H Q → t σ H Q) : PW X e t' := ⟨fun wh pins s σ H Q I q => h.run wh pins s σ H Q I (w σ H Q q)⟩
theorem PA.imp {X : Cx} {e : List Expr} {t t' : TA} (h : PA X e t) (w : ∀ σ H Q, t' σ H Q → t σ H Q) : PA X e t' := ⟨fun p pins s σ H Q I q => h.run p pins s σ H Q I (w σ H Q q)⟩
theorem PG.imp {X : Cx} {e : Expr} {t t' : L2.TG} (h : PG X e t) (w : ∀ v σ H Q, t' v σ H Q → t v σ H Q) : PG X e t' := ⟨fun pins s σ H v u Q I r q => h.run pins s σ H v u Q I r (w v σ H Q q)⟩
theorem PGs.imp {X : Cx} {e : List Expr} {t t' : L2.TGs} (h : PGs X e t) (w : ∀ v σ H Q, t' v σ H Q → t v σ H Q) : PGs X e t' := ⟨fun pins s σ H v u Q I r q => h.run pins s σ H v u Q I r (w v σ H Q q)⟩
theorem PI.imp {X : Cx} {tg e : Expr} {t t' : TI} (h : PI X tg e t) (w : ∀ σ H Q, t' σ H Q → t σ H Q) : PI X tg e t' := ⟨fun pins s σ H Q I q => h.run pins s σ H Q I (w σ H Q q)⟩
theorem PS.imp {X : Cx} {e : Stmt} {t t' : TS} (h : PS X e t) (w : ∀ D σ H, t' D σ H → t D σ H) : PS X e t' := ⟨fun pins s σ H D I q => h.run pins s σ H D I (w D σ H q)⟩
theorem PSs.imp {X : Cx} {e : List Stmt} {t t' : TS} (h : PSs X e t) (w : ∀ D σ H, t' D σ H → t D σ H) : PSs X e t' := ⟨fun pins s σ H D I q => h.run pins s σ H D I (w D σ H q)⟩
end PI
/-! PILim: values seen from another state. -/
namespace PI
open PySem PySem.Spec PyProof.Rows L2
/-- two settings alike but for exceptions -/
structure GaEq (x : Bool) (G G' : Ga) : Prop where
  K : G'.K = G.K
  fa : G'.fa = G.fa
  ca : G'.ca = G.ca
  fld : G'.fld = G.fld
  xs : x = true → G'.xs = G.xs
theorem GaEq.refl (x : Bool) (G : Ga) : GaEq x G G := ⟨rfl, rfl, rfl, rfl, fun _ => rfl⟩
section
variable {G G' : Ga} {g g' : Gs} {H : Hp} {x : Bool} {b : Nat}
mutual
theorem Is.turn (e : GaEq x G G') (m : ∀ n, n < b → g'.μ[n]? = g.μ[n]?) : ∀ {d : D} {v : V}, d.lim x b = true → Is G g H d v → Is G' g' H d v
  | .non, _, _, h => h
  | .bl _, _, _, h => h
  | .int _, _, _, h => h
  | .str _, _, _, h => h
  | .tup ds, _, l, h => by
    simp only [D.lim] at l
    simp only [Is] at h ⊢
    obtain ⟨a, vs, q1, q, r⟩ := h
    exact ⟨a, vs, q1, by rw [e.K]; exact q, IsL.turn e m l r⟩
  | .tupw ds, _, l, h => by
    simp only [D.lim] at l
    simp only [Is] at h ⊢
    obtain ⟨a, vs, q1, q, r⟩ := h
    exact ⟨a, vs, q1, q, IsL.turn e m l r⟩
  | .lst ds, _, l, h => by
    simp only [D.lim] at l
    simp only [Is] at h ⊢
    obtain ⟨a, vs, q1, q, r⟩ := h
    exact ⟨a, vs, q1, by rw [e.K]; exact q, IsL.turn e m l r⟩
  | .dic kvs, _, l, h => by
    simp only [D.lim] at l
    simp only [Is] at h ⊢
    obtain ⟨a, o, q1, q⟩ := h
    refine ⟨a, o, q1, ?_⟩
    rcases q with ⟨ks, q, r⟩ | ⟨ks, q, r⟩
    · exact .inl ⟨ks, q, IsK.turn e m l r⟩
    · exact .inr ⟨ks, q, r.1, IsT.turn e m l r.2⟩
  | .ins c fs, _, l, h => by
    simp only [D.lim] at l
    simp only [Is] at h ⊢
    obtain ⟨a, dx, vfs, o, q1, q, r⟩ := h
    exact ⟨a, dx, vfs, o, q1, by rw [e.ca]; exact q, IsFl.turn e m l r⟩
  | .exn c fs, _, l, h => by
    simp only [D.lim, Bool.and_eq_true] at l
    simp only [Is] at h ⊢
    obtain ⟨a, dd, q1, q, r⟩ := h
    refine ⟨a, dd, q1, by rw [e.xs l.1]; exact q, ?_⟩
    rcases r with r | ⟨d, vfs, e2, e3, r⟩
    · exact .inl r
    · exact .inr ⟨d, vfs, e2, e3, IsFx.turn e m l.2 r⟩
  | .obj n, _, l, h => by
    simp only [D.lim] at l
    simp only [Is] at h ⊢
    obtain ⟨a, q1, q⟩ := h
    exact ⟨a, q1, by rw [m n (of_decide_eq_true l)]; exact q⟩
  | .fn _, _, _, h => by
    simp only [Is] at h ⊢
    rw [e.fa]; exact h
  | .cls _, _, _, h => by
    simp only [Is] at h ⊢
    rw [e.ca]; exact h
  | .ty _, _, _, h => h
theorem IsL.turn (e : GaEq x G G') (m : ∀ n, n < b → g'.μ[n]? = g.μ[n]?) : ∀ {ds : List D} {vs : List V}, limL x b ds = true → IsL G g H ds vs → IsL G' g' H ds vs
  | [], [], _, _ => by simp only [IsL]
  | d :: ds, v :: vs, l, h => by
    simp only [limL, Bool.and_eq_true] at l
    simp only [IsL] at h ⊢
    exact ⟨Is.turn e m l.1 h.1, IsL.turn e m l.2 h.2⟩
  | [], _ :: _, _, h => by simp only [IsL] at h
  | _ :: _, [], _, h => by simp only [IsL] at h
theorem IsK.turn (e : GaEq x G G') (m : ∀ n, n < b → g'.μ[n]? = g.μ[n]?) : ∀ {ds : List (D × D)} {vs : List (Key × V)}, limK x b ds = true → IsK G g H ds vs → IsK G' g' H ds vs
  | [], [], _, _ => by simp only [IsK]
  | (k, d) :: ds, (q, v) :: vs, l, h => by
    simp only [limK, Bool.and_eq_true] at l
    simp only [IsK] at h ⊢
    exact ⟨Is.turn e m l.1.1 h.1, Is.turn e m l.1.2 h.2.1, IsK.turn e m l.2 h.2.2⟩
  | [], _ :: _, _, h => by simp only [IsK] at h
  | (_, _) :: _, [], _, h => by simp only [IsK] at h
theorem IsT.turn (e : GaEq x G G') (m : ∀ n, n < b → g'.μ[n]? = g.μ[n]?) : ∀ {ds : List (D × D)} {vs : List (List Key × V)}, limK x b ds = true → IsT G g H ds vs → IsT G' g' H ds vs
  | [], [], _, _ => by simp only [IsT]
  | (k, d) :: ds, (q, v) :: vs, l, h => by
    simp only [limK, Bool.and_eq_true] at l
    cases k with
    | tup ks =>
      simp only [D.lim] at l
      simp only [IsT] at h ⊢
      exact ⟨IsL.turn e m l.1.1 h.1, Is.turn e m l.1.2 h.2.1, IsT.turn e m l.2 h.2.2⟩
    | _ => simp only [IsT] at h
  | [], _ :: _, _, h => by simp only [IsT] at h
  | (_, _) :: _, [], _, h => by simp only [IsT] at h
theorem IsFl.turn (e : GaEq x G G') (m : ∀ n, n < b → g'.μ[n]? = g.μ[n]?) : ∀ {ds : List (Nat × D)} {vs : List (Str × V)}, limF x b ds = true → IsFl G g H ds vs → IsFl G' g' H ds vs
  | [], [], _, _ => by simp only [IsFl]
  | (k, d) :: ds, (q, v) :: vs, l, h => by
    simp only [limF, Bool.and_eq_true] at l
    simp only [IsFl] at h ⊢
    exact ⟨by rw [e.fld]; exact h.1, Is.turn e m l.1 h.2.1, IsFl.turn e m l.2 h.2.2⟩
  | [], _ :: _, _, h => by simp only [IsFl] at h
  | (_, _) :: _, [], _, h => by simp only [IsFl] at h
theorem IsFx.turn (e : GaEq x G G') (m : ∀ n, n < b → g'.μ[n]? = g.μ[n]?) : ∀ {ds : List (Nat × D)} {vs : List (Str × V)}, limF x b ds = true → IsFx G g H ds vs → IsFx G' g' H ds vs
  | [], _, _, _ => by simp only [IsFx]
  | (k, d) :: ds, vs, l, h => by
    simp only [limF, Bool.and_eq_true] at l
    simp only [IsFx] at h ⊢
    obtain ⟨⟨v, e1, q⟩, r⟩ := h
    exact ⟨⟨v, by rw [e.fld]; exact e1, Is.turn e m l.1 q⟩, IsFx.turn e m l.2 r⟩
end
mutual
/-- what stands names no shared object beyond those that are -/
theorem Is.lim (x : Bool) (nx : x = true ∨ ∀ a c d, ¬ G.xs a c d) : ∀ {d : D} {v : V}, Is G g H d v → d.lim x g.μ.length = true
  | .non, _, _ => by simp only [D.lim]
  | .bl _, _, _ => by simp only [D.lim]
  | .int _, _, _ => by simp only [D.lim]
  | .str _, _, _ => by simp only [D.lim]
  | .tup ds, _, h => by
    simp only [Is] at h
    obtain ⟨a, vs, q1, q, r⟩ := h
    simp only [D.lim]
    exact IsL.lim x nx r
  | .tupw ds, _, h => by
    simp only [Is] at h
    obtain ⟨a, vs, q1, q, r⟩ := h
    simp only [D.lim]
    exact IsL.lim x nx r
  | .lst ds, _, h => by
    simp only [Is] at h
    obtain ⟨a, vs, q1, q, r⟩ := h
    simp only [D.lim]
    exact IsL.lim x nx r
  | .dic kvs, _, h => by
    simp only [Is] at h
    obtain ⟨a, o, q1, q⟩ := h
    simp only [D.lim]
    rcases q with ⟨ks, q, r⟩ | ⟨ks, q, r⟩
    · exact IsK.lim x nx r
    · exact IsT.lim x nx r.2
  | .ins c fs, _, h => by
    simp only [Is] at h
    obtain ⟨a, dx, vfs, o, q1, q, r⟩ := h
    simp only [D.lim]
    exact IsFl.lim x nx r
  | .exn c fs, _, h => by
    simp only [Is] at h
    obtain ⟨a, dd, q1, q, r⟩ := h
    rcases nx with rfl | nx
    · simp only [D.lim, Bool.true_and]
      rcases r with ⟨_, rfl⟩ | ⟨d, vfs, e2, e3, r⟩
      · simp only [limF]
      · exact IsFx.lim true (.inl rfl) r
    · exact absurd q (nx _ _ _)
  | .obj n, _, h => by
    simp only [Is] at h
    obtain ⟨a, q1, q⟩ := h
    simp only [D.lim]
    exact decide_eq_true (List.getElem?_eq_some_iff.mp q).1
  | .fn _, _, _ => by simp only [D.lim]
  | .cls _, _, _ => by simp only [D.lim]
  | .ty _, _, _ => by simp only [D.lim]
theorem IsL.lim (x : Bool) (nx : x = true ∨ ∀ a c d, ¬ G.xs a c d) : ∀ {ds : List D} {vs : List V}, IsL G g H ds vs → limL x g.μ.length ds = true
  | [], [], _ => by simp only [limL]
  | d :: ds, v :: vs, h => by
    simp only [IsL] at h
    simp only [limL, Bool.and_eq_true]
    exact ⟨Is.lim x nx h.1, IsL.lim x nx h.2⟩
  | [], _ :: _, h => by simp only [IsL] at h
  | _ :: _, [], h => by simp only [IsL] at h
theorem IsK.lim (x : Bool) (nx : x = true ∨ ∀ a c d, ¬ G.xs a c d) : ∀ {ds : List (D × D)} {vs : List (Key × V)}, IsK G g H ds vs → limK x g.μ.length ds = true
  | [], [], _ => by simp only [limK]
  | (k, d) :: ds, (q, v) :: vs, h => by
    simp only [IsK] at h
    simp only [limK, Bool.and_eq_true]
    exact ⟨⟨Is.lim x nx h.1, Is.lim x nx h.2.1⟩, IsK.lim x nx h.2.2⟩
  | [], _ :: _, h => by simp only [IsK] at h
  | (_, _) :: _, [], h => by simp only [IsK] at h
theorem IsT.lim (x : Bool) (nx : x = true ∨ ∀ a c d, ¬ G.xs a c d) : ∀ {ds : List (D × D)} {vs : List (List Key × V)}, IsT G g H ds vs → limK x g.μ.length ds = true
  | [], [], _ => by simp only [limK]
  | (k, d) :: ds, (q, v) :: vs, h => by
    cases k with
    | tup ks =>
      simp only [IsT] at h
      simp only [limK, D.lim, Bool.and_eq_true]
      exact ⟨⟨IsL.lim x nx h.1, Is.lim x nx h.2.1⟩, IsT.lim x nx h.2.2⟩
    | _ => simp only [IsT] at h
  | [], _ :: _, h => by simp only [IsT] at h
  | (_, _) :: _, [], h => by simp only [IsT] at h
theorem IsFl.lim (x : Bool) (nx : x = true ∨ ∀ a c d, ¬ G.xs a c d) : ∀ {ds : List (Nat × D)} {vs : List (Str × V)}, IsFl G g H ds vs → limF x g.μ.length ds = true
  | [], [], _ => by simp only [limF]
  | (k, d) :: ds, (q, v) :: vs, h => by
    simp only [IsFl] at h
    simp only [limF, Bool.and_eq_true]
    exact ⟨Is.lim x nx h.2.1, IsFl.lim x nx h.2.2⟩
  | [], _ :: _, h => by simp only [IsFl] at h
  | (_, _) :: _, [], h => by simp only [IsFl] at h
theorem IsFx.lim (x : Bool) (nx : x = true ∨ ∀ a c d, ¬ G.xs a c d) : ∀ {ds : List (Nat × D)} {vs : List (Str × V)}, IsFx G g H ds vs → limF x g.μ.length ds = true
  | [], _, _ => by simp only [limF]
  | (k, d) :: ds, vs, h => by
    simp only [IsFx] at h
    obtain ⟨⟨v, e1, q⟩, r⟩ := h
    simp only [limF, Bool.and_eq_true]
    exact ⟨Is.lim x nx q, IsFx.lim x nx r⟩
end
theorem OIs.turn (e : GaEq x G G') (m : ∀ n, n < b → g'.μ[n]? = g.μ[n]?) {a : Addr} : ∀ {o : MO}, o.lim x b = true → OIs G g H a o → OIs G' g' H a o
  | .lst _, l, ⟨vs, q, r⟩ => ⟨vs, q, r.turn e m l⟩
  | .dic _, l, .inl ⟨ks, q, r⟩ => .inl ⟨ks, q, r.turn e m l⟩
  | .dic _, l, .inr ⟨ks, q, r⟩ => .inr ⟨ks, q, r.1, r.2.turn e m l⟩
  | .ins _ _, l, ⟨dx, vfs, q, r⟩ => ⟨dx, vfs, by rw [e.ca]; exact q, r.turn e m l⟩
theorem OIs.lim (x : Bool) (nx : x = true ∨ ∀ a c d, ¬ G.xs a c d) {a : Addr} : ∀ {o : MO}, OIs G g H a o → o.lim x g.μ.length = true
  | .lst _, ⟨vs, q, r⟩ => r.lim x nx
  | .dic _, .inl ⟨ks, q, r⟩ => r.lim x nx
  | .dic _, .inr ⟨ks, q, r⟩ => r.2.lim x nx
  | .ins _ _, ⟨dx, vfs, q, r⟩ => r.lim x nx
/-- a value that hangs on no exception, no shared object, seen from anywhere -/
theorem Is.okR {d : D} {v : V} (e : GaEq false G G') (h : Is G g H d v) (l : d.okR = true) : Is G' g' H d v := Is.turn e (fun n hn => absurd hn (Nat.not_lt_zero n)) l h
theorem IsFx.okR {d : List (Nat × D)} {v : List (Str × V)} (e : GaEq false G G') (h : IsFx G g H d v) (l : limF false 0 d = true) : IsFx G' g' H d v := IsFx.turn e (fun n hn => absurd hn (Nat.not_lt_zero n)) l h
end
end PI
/-! PISnd1: the combinators are sound: names, constants, operators, tests, arguments, statements. -/
namespace PI
open PySem PySem.Spec PyProof.Rows L2
/-- what my rules ask of the context -/
structure XJ (X : Cx) (G : Ga) (W : WX) : Prop where
  K : X.K = G.K
  nd : X.N.Nodup
  room : L2H.RoomH 0 X.A
  gd : GdOk G.pg X.A
  tk : L2N.Takes X W
  po : PassesOwn (model X.prog X.w) X.A X.env X.xe
theorem _root_.L2H.RoomH.units {k : Nat} {A : Around} (r : L2H.RoomH k A) : A.units + 64 < cLine := by have := r.un; omega
structure XI (X : Cx) (G : Ga) (W : WX) (k : Nat) : Prop extends XJ X G W where
  rm : L2H.RoomH k X.A
  calm : X.calm = true
  hd : X.A.handled = none
instance {X : Cx} {G : Ga} {W : WX} {k : Nat} : CoeOut (XI X G W k) (XJ X G W) := ⟨XI.toXJ⟩
theorem XI.roomC {X : Cx} {G : Ga} {W : WX} {k : Nat} (c : XI X G W k) : Room k X.A := ⟨c.hd, c.rm.dp, c.rm.un⟩
theorem XI.mono {X : Cx} {G : Ga} {W : WX} {j k : Nat} (c : XI X G W k) (h : j ≤ k) : XI X G W j := ⟨⟨c.K, c.nd, c.room, c.gd, c.tk, c.po⟩, c.rm.mono h, c.calm, c.hd⟩
section
variable {G : Ga} {g g' : Gs} {σ : St} {H H' : Hp} {env : Env} {M : MH} {a : Addr} {o : MO}
theorem HRel.next (R : HRel G g H M) (N : Next g H g H') (hm : ∀ b ∈ g.μ, H' b = H b) : HRel G g H' M :=
  ⟨fun b h => let ⟨u, e⟩ := R.ZH b h; ⟨u, (N.kZ b h).trans e⟩, R.len, R.nd, R.mZ, fun n b u h1 h2 => (R.ob n b u h1 h2).next N (hm b (List.mem_of_getElem? h1))⟩
theorem Rel.next (R : Rel G g σ H env M) (N : Next g H g H') (hm : ∀ b ∈ g.μ, H' b = H b)
    (ho : ∀ (i : Nat) (u : MO) (b : Addr), env[i]? = some (some (.own u)) → σ[i]? = some (some (.ref b)) → H' b = H b) : Rel G g σ H' env M :=
  ⟨R.toHRel.next N hm, R.el, fun i d h => let ⟨v, e, q⟩ := R.sl i d h; ⟨v, e, q.next N⟩, fun i u h => by
    obtain ⟨b, e, q, r⟩ := R.ow i u h
    exact ⟨b, e, q.next N (ho i u b h e), r⟩, R.di⟩
theorem upd_next (hz : ¬ g.Z a) (hm : Mut (H a)) (u : HO) : Next g H g (upd H a u) :=
  ⟨rfl, ⟨[], by simp⟩, fun b h => upd_ne fun e => hz (e ▸ h), fun b v h n => by
    rw [upd_ne fun e => n (by rw [← e, h] at hm; exact hm)]
    exact h⟩
/-- an own object that is in no slot is frozen -/
theorem freeze_own {X : Cx} {pins : List (Addr × Obj)} {s : Shared} {v : V} (I : Inv X pins σ H s) (R : Rel G g σ H env M) (h : SVIs G g H σ env v (.own o)) :
    ∃ H', Inv X pins σ H' s ∧ Next g H g H' ∧ Rel G g σ H' env M ∧ Is G g H' o.snap v := by
  obtain ⟨a, rfl, q, z, m, ns⟩ := h
  have fin : ∀ u : HO, Next g H g (upd H a u) ∧ Rel G g σ (upd H a u) env M := fun u => by
    have N := upd_next (u := u) z q.mut
    refine ⟨N, R.next N (fun b hb => upd_ne fun e => m (e ▸ hb)) fun i w b h1 h2 => upd_ne fun e => ns i w h1 (e ▸ h2)⟩
  cases o with
  | lst ds =>
    obtain ⟨vs, e, r⟩ := q
    obtain ⟨od, J⟩ := I.lock e (by trivial)
    refine ⟨_, J, (fin _).1, (fin _).2, ?_⟩
    simp only [MO.snap, Is]
    exact ⟨a, vs, rfl, .inl ⟨od, upd_same⟩, r.next (fin _).1⟩
  | dic kvs =>
    rcases q with ⟨ks, e, r⟩ | ⟨ks, e, r⟩
    · obtain ⟨od, J⟩ := I.lock e (by trivial)
      refine ⟨_, J, (fin _).1, (fin _).2, ?_⟩
      simp only [MO.snap, Is]
      exact ⟨a, od, rfl, .inl ⟨ks, upd_same, r.next (fin _).1⟩⟩
    · obtain ⟨od, J⟩ := I.lock e (by trivial)
      refine ⟨_, J, (fin _).1, (fin _).2, ?_⟩
      simp only [MO.snap, Is]
      exact ⟨a, od, rfl, .inr ⟨ks, upd_same, r.1, r.2.next (fin _).1⟩⟩
  | ins c fs =>
    obtain ⟨dx, vfs, e, r⟩ := q
    obtain ⟨od, J⟩ := I.lock e (by trivial)
    refine ⟨_, J, (fin _).1, (fin _).2, ?_⟩
    simp only [MO.snap, Is]
    exact ⟨a, dx, vfs, od, rfl, upd_same, r.next (fin _).1⟩
/-- a slot's own object comes out of the slot -/
theorem Rel.out {i : Nat} {d : D} {v : V} (R : Rel G g σ H env M) (hi : σ[i]? = some (some v)) (h : Is G g H d v) : Rel G g σ H (setS env i (.val d)) M := by
  refine ⟨R.toHRel, by unfold setS; rw [List.length_set]; exact R.el, fun j e h1 => ?_, fun j u h1 => ?_, fun j k b u u' h1 h2 => ?_⟩
  all_goals unfold setS at *
  · by_cases hj : i = j
    · subst hj
      have hl : i < env.length := by
        have := (List.getElem?_eq_some_iff.mp hi).1
        rw [R.el]; exact this
      rw [List.getElem?_set_self hl] at h1
      cases h1
      exact ⟨v, hi, h⟩
    · rw [List.getElem?_set_ne hj] at h1
      exact R.sl j e h1
  · by_cases hj : i = j
    · subst hj
      have hl : i < env.length := by
        have := (List.getElem?_eq_some_iff.mp hi).1
        rw [R.el]; exact this
      rw [List.getElem?_set_self hl] at h1
      cases h1
    · rw [List.getElem?_set_ne hj] at h1
      exact R.ow j u h1
  · have aux : ∀ {j : Nat} {u : MO}, (List.set env i (some (.val d)))[j]? = some (some (.own u)) → env[j]? = some (some (.own u)) := fun {j u} h1 => by
      by_cases hj : i = j
      · subst hj
        have hl : i < env.length := by
          have := (List.getElem?_eq_some_iff.mp hi).1
          rw [R.el]; exact this
        rw [List.getElem?_set_self hl] at h1
        cases h1
      · rw [List.getElem?_set_ne hj] at h1
        exact h1
    exact R.di j k b u u' (aux h1) (aux h2)
theorem getD_some {env : Env} {i : Nat} {s : SV} (h : env.getD i none = some s) : env[i]? = some (some s) := by
  rw [List.getD_eq_getElem?_getD] at h
  cases e : env[i]? with
  | none => rw [e] at h; cases h
  | some x => rw [e] at h; exact congrArg some h
theorem PostR.ok {W : WX} {α : Type} {r : Res α} {k : α → Env → MH → Prop} (h : PostR G W g H σ r k) : (∃ a e m, r = .ok a e m ∧ k a e m) ∨ (∃ x e m, r = .err x e m ∧ ∀ (H' : Hp) (g' : Gs) (cls : Value) (d : Option Addr), Next g H g' H' → Rel G g' σ H' e m → XIs G g' H' cls d x → W cls d σ H') := by
  cases r with
  | ok a e m => exact .inl ⟨a, e, m, rfl, h⟩
  | err x e m => exact .inr ⟨x, e, m, rfl, h⟩
  | stuck => exact False.elim h
theorem PostR.mono {W : WX} {α : Type} {r : Res α} {k k' : α → Env → MH → Prop} (h : PostR G W g H σ r k) (w : ∀ a e m, r = .ok a e m → k a e m → k' a e m) : PostR G W g H σ r k' := by
  cases r with
  | ok a e m => exact w a e m rfl h
  | err x e m => exact h
  | stuck => exact False.elim h
/-- a run behind another one -/
theorem PostR.bind {W : WX} {α β : Type} {r : Res α} {f : α → EM β} {k : β → Env → MH → Prop} (h : PostR G W g H σ (r.bind f) k) :
    PostR G W g H σ r fun a e m => PostR G W g H σ (f a e m) k := by
  cases r with
  | ok a e m => exact h
  | err x e m => exact h
  | stuck => exact h
/-- from the state reached -/
theorem PostR.from {W : WX} {α : Type} {r : Res α} {k : α → Env → MH → Prop} (N : Next g H g' H') (h : PostR G W g H σ r k) : PostR G W g' H' σ r k := by
  cases r with
  | ok a e m => exact h
  | err x e m => exact fun H2 g2 cls d N2 => h H2 g2 cls d (N.trans N2)
  | stuck => exact h
end
section
variable {X : Cx} {G : Ga} {W : WX}
/-! ### names, constants -/
theorem okLoc (i : Nat) {x : Str} {pos : Pos} (hN : X.N[i]? = some x := by rfl) (hv : Vis X.env.scope x := by first | exact Or.inl rfl | exact Or.inr (Or.inl rfl) | exact Or.inr (Or.inr rfl)) (hd : (x == ("__debug__" : Str)) = false := by decide)
    (hcd : (x == ("__classdict__" : Str)) = false := by decide) : PEI X G W (.Name x pos) (eLoc i) := by
  refine ⟨fun pins s σ H Q I h => ?_⟩
  obtain ⟨g, e, M, R, h⟩ := h
  unfold eLoc at h
  cases q : e.getD i none with
  | none => rw [q] at h; exact False.elim h
  | some sv =>
    rw [q] at h
    have qi := getD_some q
    cases sv with
    | val d =>
      obtain ⟨v, e1, r⟩ := R.sl i d qi
      exact (pe_var (X := X) hN hv hd hcd).run pins s σ H Q I ⟨v, e1, h v H g (Next.refl _ _) R r⟩
    | own o =>
      obtain ⟨a, e1, r, z, m⟩ := R.ow i o qi
      refine thn ((pe_var (X := X) hN hv hd hcd).run pins s σ H (fun v H1 => v = .ref a ∧ H1 = H) I ⟨.ref a, e1, rfl, rfl⟩) fun u s1 hu => ?_
      obtain ⟨v, H1, I1, ru, ev, eH⟩ := hu
      subst ev eH
      -- the slot's object is frozen, then read
      have il : i < σ.length := (List.getElem?_eq_some_iff.mp e1).1
      have ie : i < e.length := by rw [R.el]; exact il
      have R0 : Rel G g σ H1 (e.set i none) M := by
        have aux : ∀ {j : Nat} {w : SV}, (e.set i none)[j]? = some (some w) → e[j]? = some (some w) ∧ j ≠ i := fun {j w} h1 => by
          by_cases hj : i = j
          · subst hj
            rw [List.getElem?_set_self ie] at h1
            cases h1
          · rw [List.getElem?_set_ne hj] at h1
            exact ⟨h1, fun z => hj z.symm⟩
        exact ⟨R.toHRel, by rw [List.length_set]; exact R.el, fun j d h1 => R.sl j d (aux h1).1, fun j w h1 => R.ow j w (aux h1).1, fun j k b w w' h1 h2 => R.di j k b w w' (aux h1).1 (aux h2).1⟩
      have sv : SVIs G g H1 σ (e.set i none) (.ref a) (.own o) := ⟨a, rfl, r, z, m, fun j w h1 h2 => by
        have hj : i ≠ j := fun z => by
          subst z
          rw [List.getElem?_set_self ie] at h1
          cases h1
        rw [List.getElem?_set_ne hj] at h1
        exact hj (R.di i j a o w qi h1 e1 h2)⟩
      obtain ⟨H2, I2, N2, R2, s2⟩ := freeze_own I1 R0 sv
      refine ⟨.ref a, H2, I2, ru, h (.ref a) H2 g N2 ?_ s2⟩
      have := R2.out e1 s2
      have es : setS (e.set i none) i (.val o.snap) = setS e i (.val o.snap) := by unfold setS; rw [List.set_set]
      rw [es] at this
      exact this
theorem okPLoc (i : Nat) {x : Str} {pos : Pos} (hN : X.N[i]? = some x := by rfl) (hv : Vis X.env.scope x := by first | exact Or.inl rfl | exact Or.inr (Or.inl rfl) | exact Or.inr (Or.inr rfl)) (hd : (x == ("__debug__" : Str)) = false := by decide)
    (hcd : (x == ("__classdict__" : Str)) = false := by decide) : PPI X G W (.Name x pos) (pLoc i) := by
  refine ⟨fun pins s σ H Q I h => ?_⟩
  obtain ⟨g, e, M, R, h⟩ := h
  unfold pLoc at h
  cases q : e.getD i none with
  | none => rw [q] at h; exact False.elim h
  | some sv =>
    rw [q] at h
    have qi := getD_some q
    cases sv with
    | val d =>
      obtain ⟨v, e1, r⟩ := R.sl i d qi
      exact (pe_var (X := X) hN hv hd hcd).run pins s σ H Q I ⟨v, e1, h v H g (Next.refl _ _) R r⟩
    | own o =>
      obtain ⟨a, e1, r, z, m⟩ := R.ow i o qi
      exact (pe_var (X := X) hN hv hd hcd).run pins s σ H Q I ⟨.ref a, e1, h _ H g (Next.refl _ _) R e1⟩
/-- return x: the object goes out -/
theorem okMov (i : Nat) {x : Str} {pos pos' : Pos} (hN : X.N[i]? = some x := by rfl) (hv : Vis X.env.scope x := by first | exact Or.inl rfl | exact Or.inr (Or.inl rfl) | exact Or.inr (Or.inr rfl)) (hd : (x == ("__debug__" : Str)) = false := by decide)
    (hcd : (x == ("__classdict__" : Str)) = false := by decide) : PSI X G W (.Return (some (.Name x pos)) pos') (sRet (eMov i)) := by
  refine PS.imp (ps_ret (pe_var (X := X) hN hv hd hcd)) fun D σ H h => ?_
  obtain ⟨g, e, M, R, h⟩ := h
  simp only [sRet, eMov, EM.bind] at h
  cases q : e.getD i none with
  | none => rw [q] at h; exact False.elim h
  | some sv =>
    rw [q] at h
    have qi := getD_some q
    cases sv with
    | val d =>
      obtain ⟨v, e1, r⟩ := R.sl i d qi
      exact ⟨v, e1, h v H g (Next.refl _ _) R.toHRel r⟩
    | own o =>
      obtain ⟨a, e1, r, z, m⟩ := R.ow i o qi
      exact ⟨.ref a, e1, h _ H g (Next.refl _ _) R.toHRel ⟨a, rfl, r, z, m, fun j w h1 => by simp at h1⟩⟩
theorem okCon {e : Expr} {v : V} {d : D} (he : PE X e (tC v)) (hI : ∀ g H, Is G g H d v) : PEI X G W e (eCon d) :=
  PE.imp he fun σ H Q ⟨g, e, M, R, h⟩ => h v H g (Next.refl _ _) R (hI g H)
theorem okInt {i j pos} : PEI X G W (.Constant (.int i) j pos) (eCon (.int i)) := okCon pe_int fun _ _ => rfl
theorem okBl {b j pos} : PEI X G W (.Constant (.bool b) j pos) (eCon (.bl b)) := okCon pe_bl fun _ _ => rfl
theorem okNon {j pos} : PEI X G W (.Constant .none j pos) (eCon .non) := okCon pe_non fun _ _ => rfl
theorem okStr {x j pos} {cs : List Nat} (h : x = ⟨cs.toArray⟩ := by decide +kernel) (hl : Nat.ble cs.length 1000 = true := by rfl) : PEI X G W (.Constant (.str x) j pos) (eCon (.str cs)) := by
  subst h
  have hl := Nat.le_of_ble_eq_true hl
  exact okCon pe_str fun _ _ => ⟨rfl, by rw [sizeLine_eq]; omega⟩
/-- a name of the module: d as it stands there -/
theorem okGlo {x : Str} {v : V} {u : Value} {d : D} {pos : Pos} (hm : X.mg x = some u) (r : RelV v u) (hI : ∀ g H, Is G g H d v) (hg : Gl X x := by rfl) (hd : (x == ("__debug__" : Str)) = false := by decide) : PEI X G W (.Name x pos) (eCon d) :=
  okCon (pe_glob hg hm r hd) hI
/-! ### operands -/
theorem okPOf {e : Expr} {m : EM SV} (he : PEI X G W e m) : PPI X G W e (pOf m) := by
  refine ⟨fun pins s σ H Q I h => ?_⟩
  obtain ⟨g, e0, M, R, h⟩ := h
  have h2 := PostR.bind h
  refine thn (he.run pins s σ H (fun v H' => ∃ g' e' M' sv, Next g H g' H' ∧ Rel G g' σ H' e' M' ∧ SVIs G g' H' σ e' v sv ∧ PostR G W g H σ (EM.pure (.v sv.d) e' M') (fun a e' M' => ∀ (v : V) (H' : Hp) (g' : Gs), Next g H g' H' → Rel G g' σ H' e' M' → PVIs G g' H' σ v a → Q v H')) I ⟨g, e0, M, R, h2.mono fun sv e' M' _ k v H' g' N R' r => ⟨g', e', M', sv, N, R', r, k⟩⟩) fun u s1 hu => ?_
  obtain ⟨v, H1, I1, ru, g1, e1, M1, sv, N1, R1, r1, k⟩ := hu
  cases sv with
  | val d => exact ⟨v, H1, I1, ru, k v H1 g1 N1 R1 r1⟩
  | own o =>
    obtain ⟨H2, I2, N2, R2, s2⟩ := freeze_own I1 R1 r1
    exact ⟨v, H2, I2, ru, k v H2 g1 (N1.trans N2) R2 s2⟩
theorem okUse {e : Expr} {m : EM SV} (he : PEI X G W e m) : PUI X G W e (eUse m) := by
  refine ⟨fun pins s σ H Q I h => ?_⟩
  obtain ⟨g, e0, M, R, h⟩ := h
  have h2 := PostR.bind h
  refine thn (he.run pins s σ H (fun v H' => ∃ g' e' M' sv, Next g H g' H' ∧ Rel G g' σ H' e' M' ∧ SVIs G g' H' σ e' v sv ∧ PostR G W g H σ (EM.pure sv.d e' M') (fun a e' M' => ∀ (v : V) (H' : Hp) (g' : Gs), Next g H g' H' → Rel G g' σ H' e' M' → Is G g' H' a v → Q v H')) I ⟨g, e0, M, R, h2.mono fun sv e' M' _ k v H' g' N R' r => ⟨g', e', M', sv, N, R', r, k⟩⟩) fun u s1 hu => ?_
  obtain ⟨v, H1, I1, ru, g1, e1, M1, sv, N1, R1, r1, k⟩ := hu
  cases sv with
  | val d => exact ⟨v, H1, I1, ru, k v H1 g1 N1 R1 r1⟩
  | own o =>
    obtain ⟨H2, I2, N2, R2, s2⟩ := freeze_own I1 R1 r1
    exact ⟨v, H2, I2, ru, k v H2 g1 (N1.trans N2) R2 s2⟩
/-- what an operand holds: told at the state of the operation -/
theorem now_ok {g : Gs} {σ : St} {H : Hp} {e : Env} {M : MH} {p : PV} {v : V} {k : D → Env → MH → Prop} (R : Rel G g σ H e M) (hp : PVIs G g H σ v p) (h : PostR G W g H σ (p.now e M) k) : ∃ d, k d e M ∧ Vw G g H d v := by
  cases p with
  | v d =>
    cases d with
    | obj n =>
      have hp : Is G g H (.obj n) v := hp
      simp only [Is] at hp
      obtain ⟨a, rfl, hn⟩ := hp
      simp only [PV.now] at h
      cases q : M[n]? with
      | none => rw [q] at h; exact False.elim h
      | some o =>
        rw [q] at h
        exact ⟨o.snap, h, .inr ⟨a, o, rfl, R.ob n a o hn q, rfl⟩⟩
    | _ => exact ⟨_, h, .inl hp⟩
  | sl i =>
    simp only [PV.now] at h
    cases q : e.getD i none with
    | none => rw [q] at h; exact False.elim h
    | some sv =>
      rw [q] at h
      have hp : σ[i]? = some (some v) := hp
      cases sv with
      | val d =>
        obtain ⟨w, e1, r⟩ := R.sl i d (getD_some q)
        rw [hp] at e1
        cases e1
        exact ⟨d, h, .inl r⟩
      | own o =>
        obtain ⟨a, e1, r, _⟩ := R.ow i o (getD_some q)
        rw [hp] at e1
        cases e1
        exact ⟨o.snap, h, .inr ⟨a, o, rfl, r, rfl⟩⟩
end
end PI
/-! PISnd2: operators, tests, arguments, displays. -/
namespace PI
open PySem PySem.Spec PyProof.Rows L2
section
variable (G : Ga)
/-- a new result -/
def NewSV (g : Gs) (H H' : Hp) (v : V) : SV → Prop
  | .val d => Is G g H' d v
  | .own o => ∃ a, v = .ref a ∧ H a = none ∧ OIs G g H' a o
/-- an operator by values, as the layer reads it -/
def rOp2 (f : D → D → Option SV) : R2 := fun x y H Q => ∃ g M d1 d2 r, HRel G g H M ∧ Vw G g H d1 x ∧ Vw G g H d2 y ∧ f d1 d2 = some r ∧ ∀ v H', Grow H H' → NewSV G g H H' v r → Q v H'
def rOp1 (f : D → Option SV) : V → Hp → VK → Prop := fun x H Q => ∃ g M d1 r, HRel G g H M ∧ Vw G g H d1 x ∧ f d1 = some r ∧ ∀ v H', Grow H H' → NewSV G g H H' v r → Q v H'
def rCm (f : D → D → Option Bool) : R2 := fun x y H Q => ∃ g M d1 d2 r, HRel G g H M ∧ Vw G g H d1 x ∧ Vw G g H d2 y ∧ f d1 d2 = some r ∧ Q (.bl r) H
def VwL (g : Gs) (H : Hp) : List D → List V → Prop
  | [], [] => True
  | d :: ds, v :: vs => Vw G g H d v ∧ VwL g H ds vs
  | _, _ => False
def rB (f : List D → Option SV) : List V → Hp → VK → Prop := fun vs H Q => ∃ g M ds r, HRel G g H M ∧ VwL G g H ds vs ∧ f ds = some r ∧ ∀ v H', Grow H H' → NewSV G g H H' v r → Q v H'
def rM (f : D → List D → Option SV) : V → List V → Hp → VK → Prop := fun x vs H Q => ∃ g M d ds r, HRel G g H M ∧ Vw G g H d x ∧ VwL G g H ds vs ∧ f d ds = some r ∧ ∀ v H', Grow H H' → NewSV G g H H' v r → Q v H'
end
section
variable {G : Ga} {g g' : Gs} {σ : St} {H H' : Hp} {env : Env} {M : MH} {v : V}
theorem NewSV.sv (R : Rel G g σ H env M) (w : Grow H H') {r : SV} (h : NewSV G g H H' v r) : SVIs G g H' σ env v r := by
  cases r with
  | val d => exact h
  | own o =>
    obtain ⟨a, rfl, n, q⟩ := h
    refine ⟨a, rfl, q, fun z => ?_, fun m => ?_, fun i o' h1 h2 => ?_⟩
    · obtain ⟨u, e⟩ := R.ZH a z
      rw [n] at e; cases e
    · obtain ⟨u, e⟩ := R.toHRel.mu m
      rw [n] at e; cases e
    · obtain ⟨b, e, qb, _⟩ := R.ow i o' h1
      rw [h2] at e
      cases e
      obtain ⟨u, e⟩ := qb.some
      rw [n] at e; cases e
theorem PVIs.next (N : Next g H g' H') {p : PV} (h : PVIs G g H σ v p) : PVIs G g' H' σ v p := by
  cases p with
  | v d => exact Is.next (d := d) N h
  | sl i => exact h
theorem PVL.next (N : Next g H g' H') : ∀ {ps : List PV} {vs : List V}, PVL G g H σ ps vs → PVL G g' H' σ ps vs
  | [], [], _ => trivial
  | p :: ps, v :: vs, h => ⟨PVIs.next N h.1, PVL.next N h.2⟩
  | [], _ :: _, h => h
  | _ :: _, [], h => h
end
section
variable {X : Cx} {G : Ga} {W : WX} {a b : Expr} {es : List Expr} {ma mb : EM PV} {pos : Pos}
theorem nowL_ok {g : Gs} {σ : St} {H : Hp} {e : Env} {M : MH} (R : Rel G g σ H e M) : ∀ {ps : List PV} {vs : List V} {k : List D → Env → MH → Prop}, PVL G g H σ ps vs → PostR G W g H σ (nowL ps e M) k → ∃ ds, k ds e M ∧ VwL G g H ds vs
  | [], [], k, _, h => ⟨[], h, trivial⟩
  | p :: ps, v :: vs, k, hp, h => by
    unfold nowL at h
    obtain ⟨d, h2, q⟩ := now_ok R hp.1 (PostR.bind h)
    obtain ⟨ds, h3, q2⟩ := nowL_ok R hp.2 (PostR.bind h2)
    exact ⟨d :: ds, h3, q, q2⟩
  | [], _ :: _, _, h, _ => h.elim
  | _ :: _, [], _, h, _ => h.elim
theorem lift_ok {α : Type} {g : Gs} {σ : St} {H : Hp} {e : Env} {M : MH} {o : Option α} {k : α → Env → MH → Prop} (h : PostR G W g H σ (EM.lift o e M) k) : ∃ r, o = some r ∧ k r e M := by
  cases o with
  | none => exact False.elim h
  | some r => exact ⟨r, rfl, h⟩
/-- two operands, then what is done with them -/
theorem two_ok {α : Type} {f : D → D → EM α} {g : Gs} {σ : St} {H : Hp} {e : Env} {M : MH} {k : α → Env → MH → Prop} {Q2 : V → V → Hp → Prop} (R : Rel G g σ H e M)
    (h : PostR G W g H σ (EM.bind ma (fun x => EM.bind mb fun y => EM.bind x.now fun x => EM.bind y.now fun y => f x y) e M) k)
    (q : ∀ (x y : V) (H2 : Hp) (g2 : Gs) (e2 : Env) (M2 : MH) (d1 d2 : D), Next g H g2 H2 → Rel G g2 σ H2 e2 M2 → Vw G g2 H2 d1 x → Vw G g2 H2 d2 y → PostR G W g2 H2 σ (f d1 d2 e2 M2) k → Q2 x y H2) :
    tP G W ma σ H fun x H1 => tP G W mb σ H1 fun y H2 => Q2 x y H2 := by
  refine ⟨g, e, M, R, (PostR.bind h).mono fun p e1 M1 _ k1 x H1 g1 N1 R1 p1 => ⟨g1, e1, M1, R1, ((PostR.bind k1).from N1).mono fun p2 e2 M2 _ k2 y H2 g2 N2 R2 p2' => ?_⟩⟩
  have k2 := (PostR.from N1 k2).from N2
  obtain ⟨d1, k3, q1⟩ := now_ok R2 (p1.next N2) (PostR.bind k2)
  obtain ⟨d2, k4, q2⟩ := now_ok R2 p2' (PostR.bind k3)
  exact q x y H2 g2 e2 M2 d1 d2 (N1.trans N2) R2 q1 q2 k4
theorem ok2 {op : Operator} {f : D → D → Option SV} (ho : OpR X (binaryOp op) (rOp2 G f)) (ha : PPI X G W a ma) (hb : PPI X G W b mb) : PEI X G W (.BinOp a op b pos) (e2 f ma mb) :=
  PE.imp (pe_op ho ha hb) fun σ H Q ⟨g, e, M, R, h⟩ => two_ok R h fun x y H2 g2 e2 M2 d1 d2 N R2 v1 v2 k => by
    obtain ⟨r, er, k⟩ := lift_ok k
    exact ⟨g2, M2, d1, d2, r, R2.toHRel, v1, v2, er, fun v H' w n => k v H' g2 (N.trans (R2.toHRel.grows w)) (R2.grow w) (n.sv R2 w)⟩
theorem okIx {f : D → D → Option SV} (ho : IxR X (rOp2 G f)) (ha : PPI X G W a ma) (hb : PPI X G W b mb) (hs : PlainIx b := by intro _ _; rfl) : PEI X G W (.Subscript a b pos) (e2 f ma mb) :=
  PE.imp (pe_ix ho ha hb hs) fun σ H Q ⟨g, e, M, R, h⟩ => two_ok R h fun x y H2 g2 e2 M2 d1 d2 N R2 v1 v2 k => by
    obtain ⟨r, er, k⟩ := lift_ok k
    exact ⟨g2, M2, d1, d2, r, R2.toHRel, v1, v2, er, fun v H' w n => k v H' g2 (N.trans (R2.toHRel.grows w)) (R2.grow w) (n.sv R2 w)⟩
/-- a comparison, as a test, as a value -/
theorem okCmT {op : CmpOp} {f : D → D → Option Bool} (ho : OpR X (compareOp op) (rCm G f)) (ha : PPI X G W a ma) (hb : PPI X G W b mb) (hm : behindInMarks op b = false := by first | exact nomark _ | rfl) : PTI X G W (.Compare a [op] [b] pos) (t2 f ma mb) :=
  PT.imp (pt_cmpR ho ha hb hm) fun σ H Q ⟨g, e, M, R, h⟩ => two_ok R h fun x y H2 g2 e2 M2 d1 d2 N R2 v1 v2 k => by
    obtain ⟨r, er, k⟩ := lift_ok k
    exact ⟨g2, M2, d1, d2, r, R2.toHRel, v1, v2, er, r, rfl, k H2 g2 N R2⟩
theorem okCm {op : CmpOp} {f : D → D → Option Bool} (ho : OpR X (compareOp op) (rCm G f)) (ha : PPI X G W a ma) (hb : PPI X G W b mb) (hm : behindInMarks op b = false := by first | exact nomark _ | rfl) : PEI X G W (.Compare a [op] [b] pos) (eBool (t2 f ma mb)) := by
  refine PE.imp (pe_cmpR ho ha hb hm) fun σ H Q ⟨g, e, M, R, h⟩ => two_ok (k := fun r e' M' => ∀ (v : V) (H' : Hp) (g' : Gs), Next g H g' H' → Rel G g' σ H' e' M' → SVIs G g' H' σ e' v (.val (.bl r)) → Q v H') R ((PostR.bind h).mono fun _ _ _ _ k => k) fun x y H2 g2 e2 M2 d1 d2 N R2 v1 v2 k => ?_
  obtain ⟨r, er, k⟩ := lift_ok k
  exact ⟨g2, M2, d1, d2, r, R2.toHRel, v1, v2, er, k (.bl r) H2 g2 N R2 rfl⟩
/-- is None, is not None -/
theorem okIsN {m : EM PV} {j pos'} (ha : PPI X G W a m) : PTI X G W (.Compare a [.Is] [.Constant .none j pos'] pos) (tIsN m) := by
  refine PT.imp (pt_cmp (pc_isN ha)) fun σ H Q ⟨g, e, M, R, h⟩ => ⟨g, e, M, R, (PostR.bind h).mono fun p e1 M1 _ k1 x H1 g1 N1 R1 p1 => ?_⟩
  obtain ⟨d1, k3, q1⟩ := now_ok R1 p1 (PostR.bind (k1.from N1))
  refine ⟨_, rfl, ?_⟩
  have e : decide (x = .non) = d1.isNon := by
    rcases q1 with q | ⟨b, o, rfl, _, rfl⟩
    · cases d1 <;> simp only [Is] at q <;> first
        | (subst q; rfl)
        | (obtain ⟨q, _⟩ := q; subst q; rfl)
        | (obtain ⟨_, _, q, _⟩ := q; subst q; rfl)
        | (obtain ⟨_, _, _, _, q, _⟩ := q; subst q; rfl)
        | (obtain ⟨_, q, _⟩ := q; subst q; rfl)
    · cases o <;> rfl
  rw [e]
  exact k3 H1 g1 N1 R1
/-! ### tests -/
abbrev PWI (X : Cx) (G : Ga) (W : WX) (e : Expr) (m : EM Bool) : Prop := PW X e (tT G W m)
variable {ta tb : EM Bool} {rest : List Expr}
theorem okAnd1 (ha : PTI X G W a ta) : PWI X G W (.BoolOp .And [a] pos) ta := pw_and1 ha
theorem okOr1 (ha : PTI X G W a ta) : PWI X G W (.BoolOp .Or [a] pos) ta := pw_or1 ha
theorem okAnd (ha : PTI X G W a ta) (hb : PWI X G W (.BoolOp .And (b :: rest) pos) tb) : PWI X G W (.BoolOp .And (a :: b :: rest) pos) (PI.tAnd ta tb) :=
  PW.imp (pw_and ha hb) fun σ H Q ⟨g, e, M, R, h⟩ => ⟨g, e, M, R, (PostR.bind h).mono fun x e1 M1 _ k H1 g1 N1 R1 => by
    cases x with
    | true => exact ⟨g1, e1, M1, R1, (k.from N1).mono fun y e2 M2 _ k2 H2 g2 N2 R2 => k2 H2 g2 (N1.trans N2) R2⟩
    | false => exact k H1 g1 N1 R1⟩
theorem okOr (ha : PTI X G W a ta) (hb : PWI X G W (.BoolOp .Or (b :: rest) pos) tb) : PWI X G W (.BoolOp .Or (a :: b :: rest) pos) (PI.tOr ta tb) :=
  PW.imp (pw_or ha hb) fun σ H Q ⟨g, e, M, R, h⟩ => ⟨g, e, M, R, (PostR.bind h).mono fun x e1 M1 _ k H1 g1 N1 R1 => by
    cases x with
    | false => exact ⟨g1, e1, M1, R1, (k.from N1).mono fun y e2 M2 _ k2 H2 g2 N2 R2 => k2 H2 g2 (N1.trans N2) R2⟩
    | true => exact k H1 g1 N1 R1⟩
theorem okW {e : Expr} (h : PWI X G W e ta) : PTI X G W e ta := h.pt
theorem okNot (ha : PTI X G W a ta) : PTI X G W (.UnaryOp .Not a pos) (PI.tNot ta) :=
  PT.imp (pt_not ha) fun σ H Q ⟨g, e, M, R, h⟩ => ⟨g, e, M, R, (PostR.bind h).mono fun x e1 M1 _ k H1 g1 N1 R1 => k H1 g1 N1 R1⟩
theorem tru_of {g : Gs} {H : Hp} {M : MH} {d : D} {v : V} {k : Bool} (hK : X.K = G.K) (h : Vw G g H d v) (e : truthy d = some k) (nd : ∀ kvs, d ≠ .dic kvs) : TruV X.K v H k := by
  rcases h with h | ⟨a, o, rfl, h, rfl⟩
  · cases d with
    | non => simp only [Is] at h; subst h; exact (Option.some.inj e).symm
    | bl b => simp only [Is] at h; subst h; exact (Option.some.inj e).symm
    | int i => simp only [Is] at h; subst h; exact (Option.some.inj e).symm
    | str cs =>
      simp only [Is] at h
      obtain ⟨rfl, hl⟩ := h
      have e := (Option.some.inj e).symm
      refine ⟨by simpa [Str.length] using hl, ?_⟩
      rw [e]
      have el : (Str.length ⟨cs.toArray⟩) = cs.length := by simp [Str.length]
      rw [el]
      cases cs with
      | nil => rfl
      | cons c r =>
        have h2 : ((c :: r).length : Int) ≠ 0 := by simp only [List.length_cons]; omega
        have h3 : (c :: r).length ≠ 0 := by simp
        rw [bne_iff_ne.mpr h2, bne_iff_ne.mpr h3]
    | tup xs =>
      simp only [Is] at h
      obtain ⟨p, vs, rfl, q, r⟩ := h
      refine .inr (.inl ⟨vs, by rw [hK]; exact q.t, ?_⟩)
      rw [← Option.some.inj e]
      have := IsL.length r
      cases xs <;> cases vs <;> simp at this ⊢
    | tupw xs =>
      simp only [Is] at h
      obtain ⟨p, vs, rfl, q, r⟩ := h
      refine .inr (.inl ⟨vs, .inl (.inl q), ?_⟩)
      rw [← Option.some.inj e]
      have := IsL.length r
      cases xs <;> cases vs <;> simp at this ⊢
    | lst xs =>
      simp only [Is] at h
      obtain ⟨p, vs, rfl, q, r⟩ := h
      refine .inl ⟨vs, by rw [hK]; exact q.sq, ?_⟩
      rw [← Option.some.inj e]
      have := IsL.length r
      cases xs <;> cases vs <;> simp at this ⊢
    | dic kvs => exact absurd rfl (nd kvs)
    | _ => cases e
  · cases o with
    | lst xs =>
      obtain ⟨vs, q, r⟩ := h
      refine .inl ⟨vs, .inl (.inl q), ?_⟩
      rw [← Option.some.inj e]
      have := IsL.length r
      cases xs <;> cases vs <;> simp at this ⊢
    | dic kvs => exact absurd rfl (nd kvs)
    | ins c fs => cases e
theorem okTru (hK : X.K = G.K) (ha : PPI X G W a ma) (he : ∀ whole, isTrue a X.env whole = (do let v ← whole; standAt a.pos; holding [v] (PySem.truthy v)) := by intro _; rfl) : PTI X G W a (tTruN ma) :=
  PT.imp (pt_truth ha he) fun σ H Q ⟨g, e, M, R, h⟩ => ⟨g, e, M, R, (PostR.bind h).mono fun p e1 M1 _ k1 x H1 g1 N1 R1 p1 => by
    obtain ⟨d1, k3, q1⟩ := now_ok R1 p1 (PostR.bind (k1.from N1))
    obtain ⟨r, er, k4⟩ := lift_ok k3
    refine ⟨r, tru_of (M := M1) hK q1 (k := r) ?_ ?_, k4 H1 g1 N1 R1⟩
    · cases d1 <;> first | exact er | cases er
    · intro kvs z
      rw [z] at er
      cases er⟩
theorem okIte {c : Expr} {mx my : EM SV} (hc : PTI X G W c ta) (ha : PEI X G W a mx) (hb : PEI X G W b my) : PEI X G W (.IfExp c a b pos) (eIte ta mx my) :=
  PE.imp (pe_ifExp hc ha hb) fun σ H Q ⟨g, e, M, R, h⟩ => ⟨g, e, M, R, (PostR.bind h).mono fun x e1 M1 _ k H1 g1 N1 R1 => by
    cases x with
    | true => exact ⟨g1, e1, M1, R1, (k.from N1).mono fun y e2 M2 _ k2 v H2 g2 N2 R2 r => k2 v H2 g2 (N1.trans N2) R2 r⟩
    | false => exact ⟨g1, e1, M1, R1, (k.from N1).mono fun y e2 M2 _ k2 v H2 g2 N2 R2 r => k2 v H2 g2 (N1.trans N2) R2 r⟩⟩
/-! and, or, not as values -/
theorem okOneV {op} {m : EM SV} (h : PEI X G W a m) : PEI X G W (.BoolOp op [a] pos) m := pe_one h
theorem okAndV {mx my : EM SV} (ha : PEI X G W a mx) (hb : PEI X G W (.BoolOp .And (b :: rest) pos) my) : PEI X G W (.BoolOp .And (a :: b :: rest) pos) (eAndV mx my) :=
  PE.imp (pe_and ha hb) fun σ H Q ⟨g, e, M, R, h⟩ => ⟨g, e, M, R, (PostR.bind h).mono fun s e1 M1 _ k v H1 g1 N1 R1 r => by
    match s, k, r with
    | .val (.bl true), k, r => exact ⟨true, r, ⟨g1, e1, M1, R1, (k.from N1).mono fun y e2 M2 _ k2 v H2 g2 N2 R2 r => k2 v H2 g2 (N1.trans N2) R2 r⟩⟩
    | .val (.bl false), k, r => exact ⟨false, r, k (.bl false) H1 g1 N1 R1 rfl⟩⟩
theorem okNotV {mx : EM SV} (ha : PEI X G W a mx) : PEI X G W (.UnaryOp .Not a pos) (eNotV mx) :=
  PE.imp (pe_not ha) fun σ H Q ⟨g, e, M, R, h⟩ => ⟨g, e, M, R, (PostR.bind h).mono fun s e1 M1 _ k v H1 g1 N1 R1 r => by
    match s, k, r with
    | .val (.bl b), k, r => exact ⟨b, r, k (.bl (!b)) H1 g1 N1 R1 rfl⟩⟩
/-! ### arguments, displays -/
theorem okANil : PAI X G W [] eNil := PA.imp pa_nil fun σ H Q ⟨g, e, M, R, h⟩ => h [] H g (Next.refl _ _) R (by simp only [IsL])
theorem okACons {m : EM D} {mr : EM (List D)} (ha : PUI X G W a m) (hr : PAI X G W es mr) (hs : starEach (a :: es) X.env = (false, eval a X.env) :: starEach es X.env := by rfl) : PAI X G W (a :: es) (eCons m mr) :=
  PA.imp (pa_cons ha hr hs) fun σ H Q ⟨g, e, M, R, h⟩ => ⟨g, e, M, R, (PostR.bind h).mono fun d e1 M1 _ k v H1 g1 N1 R1 r => ⟨g1, e1, M1, R1, ((PostR.bind k).from N1).mono fun ds e2 M2 _ k2 vs H2 g2 N2 R2 r2 => k2 (v :: vs) H2 g2 (N1.trans N2) R2 (by
    simp only [IsL]
    exact ⟨r.next N2, r2⟩)⟩⟩
theorem okAPNil : PAPI X G W [] eNil := PA.imp pa_nil fun σ H Q ⟨g, e, M, R, h⟩ => h [] H g (Next.refl _ _) R trivial
theorem okAPCons {m : EM PV} {mr : EM (List PV)} (ha : PPI X G W a m) (hr : PAPI X G W es mr) (hs : starEach (a :: es) X.env = (false, eval a X.env) :: starEach es X.env := by rfl) : PAPI X G W (a :: es) (eCons m mr) :=
  PA.imp (pa_cons ha hr hs) fun σ H Q ⟨g, e, M, R, h⟩ => ⟨g, e, M, R, (PostR.bind h).mono fun d e1 M1 _ k v H1 g1 N1 R1 r => ⟨g1, e1, M1, R1, ((PostR.bind k).from N1).mono fun ds e2 M2 _ k2 vs H2 g2 N2 R2 r2 => k2 (v :: vs) H2 g2 (N1.trans N2) R2 ⟨r.next N2, r2⟩⟩⟩
/-- a new tuple, all of it known -/
theorem pe_tupS {x1} {t : TA} (h : PA X es t) : PE X (.Tuple es x1 pos) (fun σ H Q => t σ H fun xs H1 => xs.length ≤ sizeLine ∧ ∀ p o, H1 p = none → o.dict = none → Q (.ref p) (upd H1 p (.frz o (.tup xs)))) := by
  refine ⟨fun pins s σ H Q I hq => ?_⟩
  refine wpAny_Tuple_spliced (thn (h.run pos pins s σ H _ I hq) fun us s1 ⟨xs, H1, I1, r, z, q⟩ => ⟨by rw [← r.length]; exact z, ?_⟩)
  have hf : H1 s1.heap.objs.size = none := I1.hok.fresh (Nat.le_refl _)
  refine ⟨.ref s1.heap.objs.size, upd H1 s1.heap.objs.size (.frz _ (.tup xs)), I1.laid (t' := s1.toks) (fun b u e => Heap.get?_push_of_some _ e) (Nat.le_refl _) ⟨Heap.get?_push_size _ rfl, z, us, r, ⟨_, Heap.get?_push_size _ rfl, rfl, _, rfl⟩⟩, rfl, q _ _ hf rfl⟩
theorem okTup {x1} {m : EM (List D)} (h : PAI X G W es m) : PEI X G W (.Tuple es x1 pos) (eTup m) :=
  PE.imp (pe_tupS h) fun σ H Q ⟨g, e, M, R, hh⟩ => ⟨g, e, M, R, (PostR.bind hh).mono fun ds e1 M1 _ k vs H1 g1 N1 R1 r => by
    by_cases hl : ds.length ≤ 1000
    · rw [if_pos hl] at k
      refine ⟨by rw [← IsL.length r, sizeLine_eq]; omega, fun p o hp hd => ?_⟩
      have w : Grow H1 (upd H1 p (.frz o (.tup vs))) := Grow.upd hp
      exact k (.ref p) _ g1 (N1.trans (R1.toHRel.grows w)) (R1.grow w) (by
        show Is G g1 _ (.tup ds) (.ref p)
        simp only [Is]
        exact ⟨p, vs, rfl, .inl ⟨o, upd_same, hd⟩, r.next (R1.toHRel.grows w)⟩)
    · rw [if_neg hl] at k
      exact False.elim k⟩
theorem okLst {m : EM (List D)} (h : PAI X G W es m) : PEI X G W (.List es pos) (eLst m) :=
  PE.imp (pe_lst h) fun σ H Q ⟨g, e, M, R, hh⟩ => ⟨g, e, M, R, (PostR.bind hh).mono fun ds e1 M1 _ k vs H1 g1 N1 R1 r => by
    by_cases hl : ds.length ≤ 1000
    · rw [if_pos hl] at k
      refine ⟨by rw [← IsL.length r, sizeLine_eq]; omega, fun p hp => ?_⟩
      have w : Grow H1 (upd H1 p (.lst vs)) := Grow.upd hp
      exact k (.ref p) _ g1 (N1.trans (R1.toHRel.grows w)) (R1.grow w) (NewSV.sv (r := .own (.lst ds)) R1 w ⟨p, rfl, hp, vs, upd_same, r.next (R1.toHRel.grows w)⟩)
    · rw [if_neg hl] at k
      exact False.elim k⟩
/-! ### built-ins, methods of built-in types -/
theorem okB {x : Str} {id : String} {f : List D → Option SV} {m : EM (List PV)} {p : Pos} {e : Expr} (hc : CallR X (.builtin id) (rB G f)) (hm : X.mg x = none) (hv : bootBuiltins x = some (.builtin id)) (ha : PAPI X G W (e :: es) m) (hg : Gl X x := by rfl)
    (hn : x ≠ "__name__" := by decide) (hdb : (x == ("__debug__" : Str)) = false := by decide) (hs : starEach (e :: es) X.env = (false, eval e X.env) :: starEach es X.env := by rfl) (hpl : (backTo pos (starEach es X.env)).any (·.1) = false := by rfl) :
    PEI X G W (.Call (.Name x p) (e :: es) [] pos) (eB f m) := by
  refine PE.imp (pe_callB hc hg hm hv ha hn hdb hs hpl) fun σ H Q ⟨g, e, M, R, h⟩ => ⟨g, e, M, R, (PostR.bind h).mono fun ps e1 M1 _ k vs H1 g1 N1 R1 r => ?_⟩
  obtain ⟨ds, k2, w⟩ := nowL_ok R1 r (PostR.bind (k.from N1))
  obtain ⟨rr, er, k3⟩ := lift_ok k2
  exact ⟨g1, M1, ds, rr, R1.toHRel, w, er, fun v H' w n => k3 v H' g1 (N1.trans (R1.toHRel.grows w)) (R1.grow w) (n.sv R1 w)⟩
theorem okBT {x : Str} {T : String} {f : List D → Option SV} {m : EM (List PV)} {p : Pos} {e : Expr} (hc : CallR X (.type T) (rB G f)) (hm : X.mg x = none) (hv : bootBuiltins x = some (.type T)) (ha : PAPI X G W (e :: es) m) (hg : Gl X x := by rfl)
    (hn : x ≠ "__name__" := by decide) (hdb : (x == ("__debug__" : Str)) = false := by decide) (hs : starEach (e :: es) X.env = (false, eval e X.env) :: starEach es X.env := by rfl) (hpl : (backTo pos (starEach es X.env)).any (·.1) = false := by rfl) :
    PEI X G W (.Call (.Name x p) (e :: es) [] pos) (eB f m) := by
  refine PE.imp (pe_callTy hc hg hm hv ha hn hdb hs hpl) fun σ H Q ⟨g, e, M, R, h⟩ => ⟨g, e, M, R, (PostR.bind h).mono fun ps e1 M1 _ k vs H1 g1 N1 R1 r => ?_⟩
  obtain ⟨ds, k2, w⟩ := nowL_ok R1 r (PostR.bind (k.from N1))
  obtain ⟨rr, er, k3⟩ := lift_ok k2
  exact ⟨g1, M1, ds, rr, R1.toHRel, w, er, fun v H' w n => k3 v H' g1 (N1.trans (R1.toHRel.grows w)) (R1.grow w) (n.sv R1 w)⟩
end
end PI
/-! PISnd3: targets, statements, loops. -/
namespace PI
open PySem PySem.Spec PyProof.Rows L2
section
variable {G : Ga} {g g' : Gs} {σ : St} {H H' : Hp} {env : Env} {M : MH} {W : WX} {Ds : Ends}
theorem PostS.from (N : Next g H g' H') {r : Res Fl} (h : PostS G W g H Ds r) : PostS G W g' H' Ds r := by
  cases r with
  | ok f e m => cases f with
    | nx => exact fun σ2 H2 g2 N2 => h σ2 H2 g2 (N.trans N2)
    | bk => exact fun σ2 H2 g2 N2 => h σ2 H2 g2 (N.trans N2)
    | ct => exact fun σ2 H2 g2 N2 => h σ2 H2 g2 (N.trans N2)
    | ret s => exact fun v H2 g2 N2 => h v H2 g2 (N.trans N2)
  | err x e m => exact fun σ2 H2 g2 cls d N2 => h σ2 H2 g2 cls d (N.trans N2)
  | stuck => exact h
/-- an expression first, then the rest of the statement -/
theorem PostS.bind {α : Type} {r : Res α} {f : α → EM Fl} (h : PostS G W g H Ds (r.bind f)) : PostR G W g H σ r fun a e m => PostS G W g H Ds (f a e m) := by
  cases r with
  | ok a e m => exact h
  | err x e m => exact fun H2 g2 cls d N2 R2 q => h σ H2 g2 cls d N2 R2 q
  | stuck => exact h
theorem SVIs.loose {e : Env} {v : V} {s : SV} (h : SVIs G g H σ e v s) : SVIs G g H [] [] v s := by
  cases s with
  | val d => exact h
  | own o =>
    obtain ⟨a, e, q, z, m, _⟩ := h
    exact ⟨a, e, q, z, m, fun i o' h => by simp at h⟩
/-- a slot is stored -/
theorem Rel.put {i : Nat} {v : V} {s : SV} (R : Rel G g σ H env M) (hi : i < σ.length) (h : SVIs G g H σ env v s) : Rel G g (σ.set i (some v)) H (setS env i s) M := by
  have ie : i < env.length := by rw [R.el]; exact hi
  have aux : ∀ {j : Nat} {w : SV}, (env.set i (some s))[j]? = some (some w) → (j = i ∧ w = s) ∨ (j ≠ i ∧ env[j]? = some (some w)) := fun {j w} h1 => by
    by_cases hj : i = j
    · subst hj
      rw [List.getElem?_set_self ie] at h1
      cases h1
      exact .inl ⟨rfl, rfl⟩
    · rw [List.getElem?_set_ne hj] at h1
      exact .inr ⟨fun z => hj z.symm, h1⟩
  refine ⟨R.toHRel, by unfold setS; rw [List.length_set, List.length_set]; exact R.el, fun j d h1 => ?_, fun j o h1 => ?_, fun j k b o o' h1 h2 h3 h4 => ?_⟩
  · rcases aux h1 with ⟨rfl, e⟩ | ⟨hj, h1⟩
    · subst e
      exact ⟨v, List.getElem?_set_self hi, h⟩
    · obtain ⟨w, e1, r⟩ := R.sl j d h1
      exact ⟨w, by rw [List.getElem?_set_ne (Ne.symm hj)]; exact e1, r⟩
  · rcases aux h1 with ⟨rfl, e⟩ | ⟨hj, h1⟩
    · subst e
      obtain ⟨a, rfl, q, z, m, _⟩ := h
      exact ⟨a, List.getElem?_set_self hi, q, z, m⟩
    · obtain ⟨a, e1, r⟩ := R.ow j o h1
      exact ⟨a, by rw [List.getElem?_set_ne (Ne.symm hj)]; exact e1, r⟩
  · rcases aux h1 with ⟨rfl, e⟩ | ⟨hj, q1⟩
    · rcases aux h2 with ⟨rfl, e'⟩ | ⟨hk, q2⟩
      · rfl
      · subst e
        obtain ⟨a, rfl, q, z, m, ns⟩ := h
        rw [List.getElem?_set_self hi] at h3
        cases h3
        rw [List.getElem?_set_ne (Ne.symm hk)] at h4
        exact absurd h4 (ns k o' q2)
    · rcases aux h2 with ⟨rfl, e'⟩ | ⟨hk, q2⟩
      · subst e'
        obtain ⟨a, rfl, q, z, m, ns⟩ := h
        rw [List.getElem?_set_self hi] at h4
        cases h4
        rw [List.getElem?_set_ne (Ne.symm hj)] at h3
        exact absurd h3 (ns j o q1)
      · rw [List.getElem?_set_ne (Ne.symm hj)] at h3
        rw [List.getElem?_set_ne (Ne.symm hk)] at h4
        exact R.di j k b o o' q1 q2 h3 h4
end
section
variable {X : Cx} {G : Ga} {W : WX} {pos : Pos} {a e : Expr} {st : Stmt} {sts : List Stmt} {k : Nat}
theorem idx_lt {i : Nat} {x : Str} {pins : List (Addr × Obj)} {σ : St} {H : Hp} {s : Shared} (I : Inv X pins σ H s) (hN : X.N[i]? = some x) : i < σ.length := by
  rw [I.len]
  exact (List.getElem?_eq_some_iff.mp hN).1
/-! ### targets -/
theorem okGNm (c : XJ X G W) (i : Nat) {x : Str} (hi : X.N[i]? = some x := by rfl) (hx : Loc X.env.scope x := by first | exact Or.inl rfl | exact Or.inr rfl) (hf : X.fn x = true ∨ X.env.scope.names.lookup x = some .local := by first | exact .inl rfl | exact .inr rfl) : PGI X G (.Name x pos) (gNm i) [i] := by
  refine ⟨fun pins s σ H v u Q I r h => ?_⟩
  obtain ⟨g, e, M, d, e', R, q, ht, h⟩ := h
  cases ht
  exact (pg_name c.nd hi hx hf).run pins s σ H v u Q I r (h _ H g (Next.refl _ _) (R.put (s := .val d) (idx_lt I hi) q) ⟨List.length_set, fun j hj => List.getElem?_set_ne fun z => hj (by simp [z])⟩)
theorem okGNil : PGsI X G [] [] [] := PGs.imp pgs_nil fun vs σ H Q ⟨g, e, M, ds, e', R, q, ht, h⟩ => by
  cases ds with
  | nil => cases vs with
    | nil =>
      cases ht
      exact ⟨rfl, h σ H g (Next.refl _ _) R ⟨rfl, fun _ _ => rfl⟩⟩
    | cons v vs => simp only [IsL] at q
  | cons d ds => cases ht
theorem okGCons {t : PI.TG} {ts : List PI.TG} {es : List Expr} {is js : List Nat} (h1 : PGI X G e t is) (h2 : PGsI X G es ts js) (hs : (assignEach (e :: es) X.env).map (·.2) = assign e X.env :: (assignEach es X.env).map (·.2) := by rfl) : PGsI X G (e :: es) (t :: ts) (is ++ js) :=
  PGs.imp (pgs_cons h1 h2 hs) fun vs σ H Q ⟨g, e0, M, ds, e', R, q, ht, h⟩ => by
    cases ds with
    | nil => cases ht
    | cons d ds => cases vs with
      | nil => simp only [IsL] at q
      | cons v vs =>
        simp only [IsL] at q
        unfold gGo at ht
        obtain ⟨e1, t1, t2⟩ := Option.bind_eq_some_iff.mp ht
        exact ⟨v, vs, rfl, g, e0, M, d, e1, R, q.1, t1, fun σ1 H1 g1 N1 R1 o1 => ⟨g1, e1, M, ds, e', R1, q.2.next N1, t2, fun σ2 H2 g2 N2 R2 o2 => h σ2 H2 g2 (N1.trans N2) R2 ⟨o2.1.trans o1.1, fun j hj => (o2.2 j fun z => hj (List.mem_append_right _ z)).trans (o1.2 j fun z => hj (List.mem_append_left _ z))⟩⟩⟩
theorem gGo_len : ∀ {ts : List PI.TG} {ds : List D} {e e' : Env}, gGo ts ds e = some e' → ds.length = ts.length
  | [], [], _, _, _ => rfl
  | [], _ :: _, _, _, h => by cases h
  | _ :: _, [], _, _, h => by cases h
  | t :: ts, d :: ds, e, e', h => by
    unfold gGo at h
    obtain ⟨e1, t1, t2⟩ := Option.bind_eq_some_iff.mp h
    exact congrArg Nat.succ (gGo_len t2)
theorem okGTup (c : XI X G W k) {ts : List PI.TG} {es : List Expr} {kk n : Nat} {is : List Nat} (h : PGsI X G es ts is) (hn : (assignEach es X.env).length = n := by rfl) (hst : (assignEach es X.env).findIdx? (·.1) = none := by rfl) (hl : ts.length = n := by rfl) : PGI X G (.Tuple es kk pos) (gTup ts) is :=
  PG.imp (pg_tup (n := n) c.calm h hn hst) fun v σ H Q ⟨g, e, M, d, e', R, q, ht, h⟩ => by
    cases d with
    | tup ds =>
      simp only [Is] at q
      obtain ⟨b, vs, rfl, q, r⟩ := q
      exact ⟨b, vs, rfl, by rw [c.K]; exact q.t, by rw [← IsL.length r, gGo_len ht]; exact hl, g, e, M, ds, e', R, r, ht, h⟩
    | tupw ds =>
      simp only [Is] at q
      obtain ⟨b, vs, rfl, q, r⟩ := q
      exact ⟨b, vs, rfl, .inl (.inl q), by rw [← IsL.length r, gGo_len ht]; exact hl, g, e, M, ds, e', R, r, ht, h⟩
    | _ => cases ht
/-! ### statements -/
theorem okSet (c : XJ X G W) (i : Nat) {x : Str} {pos' : Pos} {m : EM SV} (he : PEI X G W e m) (hi : X.N[i]? = some x := by rfl) (hx : Loc X.env.scope x := by first | exact Or.inl rfl | exact Or.inr rfl)
    (hs : swapsWith e (some (.Name x pos')) pos.line X.env = pure false := by rfl) (hf : X.fn x = true ∨ X.env.scope.names.lookup x = some .local := by first | exact .inl rfl | exact .inr rfl) : PSI X G W (.Assign [.Name x pos'] e pos) (sSet i m) := by
  refine ⟨fun pins s σ H D I h => ?_⟩
  obtain ⟨g, e0, M, R, h⟩ := h
  exact (ps_set c.nd hi hx he hs hf).run pins s σ H D I ⟨g, e0, M, R, (PostS.bind h).mono fun sv e1 M1 _ k1 v H1 g1 N1 R1 r => k1 _ H1 g1 N1 (R1.put (idx_lt I hi) r)⟩
theorem okAsg {tg : Expr} {t : PI.TG} {m : EM SV} {is : List Nat} (he : PEI X G W e m) (hg : PGI X G tg t is) (hs : swapsWithSole [tg] e pos.line X.env = pure false := by rfl) (hw : swappedStores [tg] e X.env = pure none := by rfl)
    (h1 : (assignEach [tg] X.env).map (·.2) = [assign tg X.env] := by rfl) : PSI X G W (.Assign [tg] e pos) (sAsg t m) := by
  have he2 := okUse he
  refine PS.imp (ps_asg he2 hg hs hw h1) fun D σ H ⟨g, e0, M, R, h⟩ => ⟨g, e0, M, R, ?_⟩
  have h2 := PostS.bind (σ := σ) h
  have : PostR G W g H σ (eUse m e0 M) fun d e' M' => PostS G W g H D (EM.bind (TG.em t d) (fun _ => EM.pure .nx) e' M') := by
    unfold eUse
    simp only [bind_ap]
    cases hm : m e0 M with
    | ok sv e1 M1 => rw [hm] at h2; exact h2
    | err x e1 M1 => rw [hm] at h2; exact h2
    | stuck => rw [hm] at h2; exact h2
  refine this.mono fun d e1 M1 _ k1 v H1 g1 N1 R1 r => ?_
  simp only [bind_ap, TG.em] at k1
  cases ht : t d e1 with
  | some e2 =>
    rw [ht] at k1
    exact ⟨g1, e1, M1, d, e2, R1, r, ht, fun σ2 H2 g2 N2 R2 _ => k1 σ2 H2 g2 (N1.trans N2) R2⟩
  | none => rw [ht] at k1; exact False.elim k1
theorem okExp {m : EM SV} (he : PEI X G W e m) (hs : swapsWith e none pos.line X.env = pure false := by rfl) : PSI X G W (.Expr e pos) (sExp m) :=
  PS.imp (ps_expr he hs) fun D σ H ⟨g, e0, M, R, h⟩ => ⟨g, e0, M, R, (PostS.bind h).mono fun sv e1 M1 _ k1 v H1 g1 N1 R1 r => k1 σ H1 g1 N1 R1⟩
theorem okRet {m : EM SV} (he : PEI X G W e m) : PSI X G W (.Return (some e) pos) (sRet m) :=
  PS.imp (ps_ret he) fun D σ H ⟨g, e0, M, R, h⟩ => ⟨g, e0, M, R, (PostS.bind h).mono fun sv e1 M1 _ k1 v H1 g1 N1 R1 r => k1 v H1 g1 N1 R1.toHRel r.loose⟩
theorem okNil : PSsI X G W [] sPass := PSs.imp pss_nil fun D σ H ⟨g, e0, M, R, h⟩ => h σ H g (Next.refl _ _) R
theorem okOne {m : EM Fl} (h : PSI X G W st m) : PSsI X G W [st] m := pss_one h
theorem okSeq {m n : EM Fl} (h1 : PSI X G W st m) (h2 : PSsI X G W sts n) : PSsI X G W (st :: sts) (sSeq m n) :=
  PSs.imp (pss_cons h1 h2) fun D σ H ⟨g, e0, M, R, h⟩ => ⟨g, e0, M, R, by
    simp only [sSeq, bind_ap] at h
    cases hm : m e0 M with
    | ok f e1 M1 =>
      rw [hm] at h
      cases f with
      | nx => exact fun σ1 H1 g1 N1 R1 => ⟨g1, e1, M1, R1, PostS.from N1 h⟩
      | bk => exact h
      | ct => exact h
      | ret s => exact h
    | err x e1 M1 => rw [hm] at h; exact h
    | stuck => rw [hm] at h; exact h⟩
theorem okIf {cnd : Expr} {sa sb : List Stmt} {t : EM Bool} {m n : EM Fl} (hc : PTI X G W cnd t) (ha : PSsI X G W sa m) (hb : PSsI X G W sb n) : PSI X G W (.If cnd sa sb pos) (sIf t m n) :=
  PS.imp (ps_if hc ha hb) fun D σ H ⟨g, e0, M, R, h⟩ => ⟨g, e0, M, R, (PostS.bind h).mono fun b e1 M1 _ k1 H1 g1 N1 R1 => by
    cases b with
    | true => exact ⟨g1, e1, M1, R1, PostS.from N1 k1⟩
    | false => exact ⟨g1, e1, M1, R1, PostS.from N1 k1⟩⟩
theorem okFor (c : XI X G W k) {tg iter : Expr} {body : List Stmt} {t : PI.TG} {it : EM (List D)} {m : EM Fl} {is : List Nat} (hi : PII X G W tg iter it) (hg : PGI X G tg t is) (hb : PSsI X G W body m)
    (hs : ∀ x, foldedSetIterable iter X.env x = pure x := by intro _; rfl) : PSI X G W (.For tg iter body [] pos) (sFor t it m) :=
  PS.imp (ps_for c.po c.calm hi hg hb hs) fun D σ H ⟨g, e0, M, R, h⟩ => ⟨g, e0, M, R, (PostS.bind h).mono fun ds e1 M1 _ k1 J H1 g1 N1 R1 J1 _ => by
    refine ⟨fun i mm σ2 H2 => mm = ds.length - i ∧ i ≤ ds.length ∧ ∃ g2 e2 M2, Next g1 H1 g2 H2 ∧ Rel G g2 σ2 H2 e2 M2 ∧ PostS G W g2 H2 D (sForGo t m (ds.drop i) e2 M2), ⟨ds.length, by simp, Nat.zero_le _, g1, e1, M1, Next.refl _ _, R1, by rw [List.drop_zero]; exact PostS.from N1 k1⟩, ?_⟩
    rintro i mm σ2 H2 ⟨rfl, hle, g2, e2, M2, N2, R2, p⟩
    by_cases hlt : i < ds.length
    · obtain ⟨j1, j2⟩ := (J1 i g2 H2 N2).1 ds[i] (List.getElem?_eq_getElem hlt)
      have ed : ds.drop i = ds[i] :: ds.drop (i + 1) := List.drop_eq_getElem_cons hlt
      rw [ed] at p
      simp only [sForGo, bind_ap] at p
      refine .inr ⟨j1, fun σ' H' => ∃ g' e' M', Next g1 H1 g' H' ∧ Rel G g' σ' H' e' M' ∧ PostS G W g' H' D (sForGo t m (ds.drop (i + 1)) e' M'), fun σ' H' ⟨g', e', M', a1, a2, a3⟩ => ⟨ds.length - (i + 1), by omega, rfl, hlt, g', e', M', a1, a2, a3⟩, fun x H3 y => ?_⟩
      obtain ⟨w3, q3⟩ := j2 x H3 y
      have N3 := R2.toHRel.grows w3
      have p := PostS.from N3 p
      cases ht : t ds[i] e2 with
      | none => simp only [TG.em, ht] at p; exact False.elim p
      | some e4 =>
        simp only [TG.em, ht] at p
        refine ⟨g2, e2, M2, ds[i], e4, R2.grow w3, q3, ht, fun σ4 H4 g4 N4 R4 _ => ⟨g4, e4, M2, R4, ?_⟩⟩
        have p : PostS G W g2 H3 D ((m e4 M2).bind _) := p
        have p := PostS.from N4 p
        have NN := (N2.trans N3).trans N4
        cases hm : m e4 M2 with
        | ok f e5 M5 =>
          rw [hm] at p
          simp only [bind_ok] at p
          cases f with
          | nx => exact fun σ5 H5 g5 N5 R5 => ⟨g5, e5, M5, NN.trans N5, R5, PostS.from N5 p⟩
          | ct => exact fun σ5 H5 g5 N5 R5 => ⟨g5, e5, M5, NN.trans N5, R5, PostS.from N5 p⟩
          | bk => exact p
          | ret s => exact p
        | err x e5 M5 => rw [hm] at p; exact p
        | stuck => rw [hm] at p; exact p
    · have e : i = ds.length := by omega
      subst e
      rw [List.drop_length] at p
      exact .inl ⟨(J1 _ g2 H2 N2).2 (Nat.le_refl _), p σ2 H2 g2 (Next.refl _ _) R2⟩⟩
end
end PI
/-! PISnd4: comprehensions; what loops walk. -/
namespace PI
open PySem PySem.Spec PyProof.Rows L2
theorem wipeE_len : ∀ (vs : List Nat) (e : Env), (wipeE vs e).length = e.length
  | [], _ => rfl
  | v :: vs, e => by unfold wipeE; rw [List.length_set, wipeE_len vs e]
theorem backE_len : ∀ (vs : List Nat) (e0 e : Env), (backE vs e0 e).length = e.length
  | [], _, _ => rfl
  | v :: vs, e0, e => by unfold backE; rw [List.length_set, backE_len vs e0 e]
theorem wipeE_out : ∀ {vs : List Nat} {e : Env} {i : Nat}, i ∉ vs → (wipeE vs e)[i]? = e[i]?
  | [], _, _, _ => rfl
  | v :: vs, e, i, h => by
    simp only [List.mem_cons, not_or] at h
    unfold wipeE
    rw [List.getElem?_set_ne (Ne.symm h.1)]
    exact wipeE_out h.2
theorem backE_out : ∀ {vs : List Nat} {e0 e : Env} {i : Nat}, i ∉ vs → (backE vs e0 e)[i]? = e[i]?
  | [], _, _, _, _ => rfl
  | v :: vs, e0, e, i, h => by
    simp only [List.mem_cons, not_or] at h
    unfold backE
    rw [List.getElem?_set_ne (Ne.symm h.1)]
    exact backE_out h.2
theorem backE_in : ∀ {vs : List Nat} {e0 e : Env} {i : Nat} {s : SV}, i ∈ vs → (backE vs e0 e)[i]? = some (some s) → e0.getD i none = some s
  | v :: vs, e0, e, i, s, h, q => by
    unfold backE at q
    by_cases hv : v = i
    · subst hv
      by_cases hl : v < (backE vs e0 e).length
      · rw [List.getElem?_set_self hl] at q
        exact Option.some.inj q
      · rw [List.getElem?_eq_none (by simpa using hl)] at q
        cases q
    · rw [List.getElem?_set_ne hv] at q
      exact backE_in ((List.mem_cons.mp h).resolve_left fun z => hv z.symm) q
theorem okOwn_at {own : List Nat} {e : Env} {i : Nat} {o : MO} (h : okOwn own e = true) (hi : i ∈ own) : e.getD i none ≠ some (.own o) := fun z => by
  have := List.all_eq_true.mp h i hi
  rw [z] at this
  cases this
theorem wipe_eq {σ σ2 : St} {vs is : List Nat} (hs : ∀ i ∈ is, i ∈ vs) (o : Only1 is (wipe σ vs) σ2) : wipe σ2 vs = wipe σ vs := by
  apply List.ext_getElem?
  intro j
  by_cases hj : j ∈ vs
  · -- both none
    have aux : ∀ {τ τ' : St} {vs : List Nat}, τ.length = τ'.length → j ∈ vs → (wipe τ vs)[j]? = (wipe τ' vs)[j]? := by
      intro τ τ' vs hl
      induction vs with
      | nil => intro h; cases h
      | cons v vs ih =>
        intro h
        unfold wipe
        by_cases hv : v = j
        · subst hv
          have l1 := wipe_length τ vs
          have l2 := wipe_length τ' vs
          by_cases hl' : v < τ.length
          · rw [List.getElem?_set_self (by rw [l1]; exact hl'), List.getElem?_set_self (by rw [l2, ← hl]; exact hl')]
          · rw [List.getElem?_eq_none (by rw [List.length_set, l1]; omega), List.getElem?_eq_none (by rw [List.length_set, l2]; omega)]
        · rw [List.getElem?_set_ne hv, List.getElem?_set_ne hv]
          exact ih ((List.mem_cons.mp h).resolve_left fun z => hv z.symm)
    exact aux (by rw [o.1, wipe_length]) hj
  · rw [wipe_out hj, o.2 j fun z => hj (hs j z)]
section
variable {G : Ga} {g g' : Gs} {σ : St} {H H' : Hp} {env : Env} {M : MH} {W : WX}
theorem Rel.set_none (R : Rel G g σ H env M) (i : Nat) : Rel G g (σ.set i none) H (env.set i none) M := by
  have aux : ∀ {j : Nat} {w : SV}, (env.set i none)[j]? = some (some w) → j ≠ i ∧ env[j]? = some (some w) := fun {j w} h1 => by
    by_cases hj : i = j
    · subst hj
      by_cases hl : i < env.length
      · rw [List.getElem?_set_self hl] at h1
        cases h1
      · rw [List.getElem?_eq_none (by simpa using hl)] at h1
        cases h1
    · rw [List.getElem?_set_ne hj] at h1
      exact ⟨fun z => hj z.symm, h1⟩
  refine ⟨R.toHRel, by rw [List.length_set, List.length_set]; exact R.el, fun j d h1 => ?_, fun j o h1 => ?_, fun j k b o o' h1 h2 h3 h4 => ?_⟩
  · obtain ⟨hj, h1⟩ := aux h1
    obtain ⟨v, e, q⟩ := R.sl j d h1
    exact ⟨v, by rw [List.getElem?_set_ne (Ne.symm hj)]; exact e, q⟩
  · obtain ⟨hj, h1⟩ := aux h1
    obtain ⟨v, e, q⟩ := R.ow j o h1
    exact ⟨v, by rw [List.getElem?_set_ne (Ne.symm hj)]; exact e, q⟩
  · obtain ⟨hj, h1⟩ := aux h1
    obtain ⟨hk, h2⟩ := aux h2
    rw [List.getElem?_set_ne (Ne.symm hj)] at h3
    rw [List.getElem?_set_ne (Ne.symm hk)] at h4
    exact R.di j k b o o' h1 h2 h3 h4
theorem Rel.wipe (R : Rel G g σ H env M) : ∀ vs : List Nat, Rel G g (L2.wipe σ vs) H (wipeE vs env) M
  | [] => R
  | v :: vs => (R.wipe vs).set_none v
/-- back from a comprehension -/
theorem Rel.back {g0 : Gs} {H0 : Hp} {e0 : Env} {M0 : MH} {vs : List Nat} (R0 : Rel G g0 σ H0 e0 M0) (ok : okOwn vs e0 = true) (N : Next g0 H0 g H) (R : Rel G g (L2.wipe σ vs) H (wipeE vs env) M) : Rel G g σ H (backE vs e0 env) M := by
  have el : env.length = σ.length := by
    have := R.el
    rw [wipeE_len, wipe_length] at this
    exact this
  refine ⟨R.toHRel, by rw [backE_len]; exact el, fun j d h1 => ?_, fun j o h1 => ?_, fun j k b o o' h1 h2 h3 h4 => ?_⟩
  · by_cases hj : j ∈ vs
    · obtain ⟨v, e, q⟩ := R0.sl j d (getD_some (backE_in hj h1))
      exact ⟨v, e, q.next N⟩
    · rw [backE_out hj] at h1
      obtain ⟨v, e, q⟩ := R.sl j d (by rw [wipeE_out hj]; exact h1)
      rw [wipe_out hj] at e
      exact ⟨v, e, q⟩
  · by_cases hj : j ∈ vs
    · exact absurd (backE_in hj h1) (okOwn_at ok hj)
    · rw [backE_out hj] at h1
      obtain ⟨v, e, q⟩ := R.ow j o (by rw [wipeE_out hj]; exact h1)
      rw [wipe_out hj] at e
      exact ⟨v, e, q⟩
  · by_cases hj : j ∈ vs
    · exact absurd (backE_in hj h1) (okOwn_at ok hj)
    · by_cases hk : k ∈ vs
      · exact absurd (backE_in hk h2) (okOwn_at ok hk)
      · rw [backE_out hj] at h1
        rw [backE_out hk] at h2
        exact R.di j k b o o' (by rw [wipeE_out hj]; exact h1) (by rw [wipeE_out hk]; exact h2) (by rw [wipe_out hj]; exact h3) (by rw [wipe_out hk]; exact h4)
/-- a further foreign object -/
def Gs.plus (g : Gs) (D : Addr) : Gs := ⟨fun a => g.Z a ∨ a = D, g.μ⟩
def Gs.less (g g0 : Gs) : Gs := ⟨g0.Z, g.μ⟩
theorem plus_i {g : Gs} {H : Hp} {D : Addr} : NextI g H (g.plus D) H := ⟨⟨[], (List.append_nil _).symm⟩, fun _ _ h _ => h⟩
theorem less_i {g g0 : Gs} {H : Hp} : NextI g H (g.less g0) H := ⟨⟨[], (List.append_nil _).symm⟩, fun _ _ h _ => h⟩
theorem Rel.plus (R : Rel G g σ H env M) {D : Addr} {o : HO} (hD : H D = some o) (m : D ∉ g.μ) (ns : ∀ (j : Nat) (u : MO), env[j]? = some (some (.own u)) → σ[j]? ≠ some (some (.ref D))) : Rel G (g.plus D) σ H env M :=
  ⟨⟨fun a h => h.elim (R.ZH a) fun e => ⟨o, e ▸ hD⟩, R.len, R.nd, fun a h z => z.elim (R.mZ a h) fun e => m (e ▸ h), fun n a u h1 h2 => (R.ob n a u h1 h2).nextI plus_i rfl⟩, R.el,
    fun i d h => let ⟨v, e, q⟩ := R.sl i d h; ⟨v, e, q.nextI plus_i⟩, fun i u h => by
      obtain ⟨a, e, q, z, ma⟩ := R.ow i u h
      exact ⟨a, e, q.nextI plus_i rfl, fun y => y.elim z fun ea => ns i u h (ea ▸ e), ma⟩, R.di⟩
theorem Rel.less {g0 : Gs} (R : Rel G g σ H env M) (w : ∀ a, g0.Z a → g.Z a) : Rel G (g.less g0) σ H env M :=
  ⟨⟨fun a h => R.ZH a (w a h), R.len, R.nd, fun a h z => R.mZ a h (w a z), fun n a u h1 h2 => (R.ob n a u h1 h2).nextI less_i rfl⟩, R.el,
    fun i d h => let ⟨v, e, q⟩ := R.sl i d h; ⟨v, e, q.nextI less_i⟩, fun i u h => by
      obtain ⟨a, e, q, z, ma⟩ := R.ow i u h
      exact ⟨a, e, q.nextI less_i rfl, fun y => z (w a y), ma⟩, R.di⟩
end
abbrev W0 : WX := fun _ _ _ _ => False
theorem XI.blk {X : Cx} {G : Ga} {W : WX} {k : Nat} (c : XI X G W k) (s : Shared) (H : Hp) (scope : Scope) (cenv : PySem.Env) (fp : List Addr) : XI (X.blk s H scope cenv fp) G W0 k :=
  ⟨⟨c.K, c.nd, c.room, c.gd, fun _ _ x => by obtain ⟨_, _, _, _, _, _, _, _, _, _, _, _, _, _, _, _, z⟩ := x; exact z, PassesOwn.never⟩, c.rm, c.calm, c.hd⟩
section
variable {X : Cx} {G : Ga} {W : WX} {k : Nat} {pos : Pos}
theorem bind_is_ok {α β : Type} {r : Res α} {f : α → EM β} {b : β} {e : Env} {m : MH} (h : r.bind f = .ok b e m) : ∃ a e1 m1, r = .ok a e1 m1 ∧ f a e1 m1 = .ok b e m := by
  cases r with
  | ok a e1 m1 => exact ⟨a, e1, m1, rfl, h⟩
  | err x e1 m1 => cases h
  | stuck => cases h
theorem okLc (c : XJ X G W) {elt tg iter : Expr} {ifs : List Expr} {scope : Scope} {own : List (Str × Nat)} {t : PI.TG} {it : EM (List D)} {cnd : EM Bool} {x : EM D} {is : List Nat} (hi : PII X G W tg iter it) (ok : BlkOk X.N X.env.scope scope own)
    (hg : ∀ (s : Shared) (H : Hp) (C : Addr) (cl : List (Str × Addr)) (fp : List Addr), PGI (X.blk s H scope (compEnvC scope cl C X.env) fp) G tg t is) (his : ∀ i ∈ is, i ∈ own.map (·.2))
    (ht : ∀ (s : Shared) (H : Hp) (C : Addr) (cl : List (Str × Addr)) (fp : List Addr), PTs (X.blk s H scope (compEnvC scope cl C X.env) fp) ifs (tT G W0 cnd))
    (he : ∀ (s : Shared) (H : Hp) (C : Addr) (cl : List (Str × Addr)) (fp : List Addr), PUI (X.blk s H scope (compEnvC scope cl C X.env) fp) G W0 elt x) (hs : ∀ x, foldedSetIterable iter X.env x = pure x := by intro _; rfl) :
    ∀ σ H Q, tE G W (eLc t it cnd x (own.map (·.2))) σ H Q → tLc (tI G W it) (tGt G t is) (tT G W0 cnd) (tU G W0 x) (own.map (·.2)) σ H Q := by
  intro σ H Q ⟨g, e, M, R, h⟩
  generalize hvs : own.map (·.2) = vs at h his ⊢
  refine ⟨g, e, M, R, (PostR.bind h).mono fun ds e1 M1 _ k1 J H1 g1 N1 R1 J1 hl D hD => ?_⟩
  by_cases hok : okOwn vs e1 = true
  case neg => rw [if_neg hok] at k1; exact False.elim k1
  rw [if_pos hok] at k1
  cases hlc : lcGo t cnd x vs ds e1 M1 with
  | err _ _ _ => rw [hlc] at k1; exact False.elim k1
  | stuck => rw [hlc] at k1; exact False.elim k1
  | ok ys eF MF =>
  rw [hlc] at k1
  have nZD : ¬ g1.Z D := fun z => by obtain ⟨u, q⟩ := R1.ZH D z; rw [hD] at q; cases q
  have ne1 : ∀ {a : Addr} {o : HO}, H1 a = some o → a ≠ D := fun {a o} q z => by rw [z, hD] at q; cases q
  let Inv1 : Nat → Hp → Prop := fun i H2 => ∃ (g2 : Gs) (e2 : Env) (M2 : MH) (done : List PI.D) (vdone : List V) (rest : List PI.D), Next g1 H1 g2 H2 ∧ Rel G g2 (L2.wipe σ vs) H2 (wipeE vs e2) M2 ∧ H2 D = some (.lst vdone) ∧ IsL G g2 H2 done vdone ∧ D ∉ g2.μ ∧
    (∀ (j : Nat) (u : MO), (wipeE vs e2)[j]? = some (some (.own u)) → (L2.wipe σ vs)[j]? ≠ some (some (.ref D))) ∧ lcGo t cnd x vs (ds.drop i) e2 M2 = .ok rest eF MF ∧ ys = done ++ rest ∧ done.length ≤ i
  have start : Inv1 0 (upd H1 D (.lst [])) := by
    have w : Grow H1 (upd H1 D (.lst [])) := Grow.upd hD
    refine ⟨g1, e1, M1, [], [], ys, R1.toHRel.grows w, (R1.grow w).wipe vs, upd_same, by simp only [IsL], fun m => ?_, fun j u h1 h2 => ?_, by rw [List.drop_zero]; exact hlc, rfl, Nat.zero_le _⟩
    · obtain ⟨u, q⟩ := R1.toHRel.mu m
      rw [hD] at q; cases q
    · obtain ⟨a, ea, qa, _⟩ := (R1.wipe vs).ow j u h1
      rw [h2] at ea
      cases ea
      obtain ⟨u', q⟩ := qa.some
      rw [hD] at q; cases q
  refine ⟨fun i mm H2 => mm = ds.length - i ∧ i ≤ ds.length ∧ Inv1 i H2, ⟨ds.length, by simp, Nat.zero_le _, start⟩, ?_⟩
  rintro i mm H2 ⟨rfl, hle, g2, e2, M2, done, vdone, rest, N2, R2, hD2, hdone, mD, nD, hgo, hys, hlen⟩
  by_cases hlt : i < ds.length
  · obtain ⟨j1, j2⟩ := (J1 i g2 H2 N2).1 ds[i] (List.getElem?_eq_getElem hlt)
    have ed : ds.drop i = ds[i] :: ds.drop (i + 1) := List.drop_eq_getElem_cons hlt
    rw [ed] at hgo
    refine .inr ⟨j1, Inv1 (i + 1), fun H' q => ⟨ds.length - (i + 1), by omega, rfl, hlt, q⟩, fun xv H3 y => ?_⟩
    obtain ⟨w3, q3⟩ := j2 xv H3 y
    have hD3 : H3 D = some (.lst vdone) := w3 D _ hD2
    have R3 := (R2.grow w3).plus hD3 mD nD
    have N3 := N2.trans (R2.toHRel.grows w3)
    simp only [lcGo] at hgo
    cases ht1 : t ds[i] (wipeE vs e2) with
    | none => rw [ht1] at hgo; cases hgo
    | some e3 =>
    rw [ht1] at hgo
    obtain ⟨kb, e5, M5, hc5, hgo⟩ := bind_is_ok hgo
    refine ⟨g2.plus D, wipeE vs e2, M2, ds[i], e3, R3, q3.nextI plus_i, ht1, fun σ4 H4 g4 N4 R4 o4 => ⟨wipe_eq his o4, g4, e3, M2, R4, ?_⟩⟩
    rw [hc5]
    intro H5 g5 N5 R5
    have N45 := N4.trans N5
    -- a turn's end
    have fin : ∀ {g6 : Gs} {H6 : Hp} {e6 : Env} {M6 : MH} {done' : List PI.D} {vdone' : List V} {rest' : List PI.D}, Next (g2.plus D) H3 g6 H6 → Rel G g6 σ4 H6 e6 M6 → (∀ H7, NextI g6 H6 (g6.less g1) H7 → IsL G (g6.less g1) H7 done' vdone') →
        lcGo t cnd x vs (ds.drop (i + 1)) e6 M6 = .ok rest' eF MF → ys = done' ++ rest' → done'.length ≤ i + 1 → Inv1 (i + 1) (upd H6 D (.lst vdone')) := by
      intro g6 H6 e6 M6 done' vdone' rest' N6 R6 hd hgo' hys' hl'
      have hD6 : H6 D = some (.lst vdone) := (N6.kZ D (.inr rfl)).trans hD3
      have mt : Mut (H6 D) := by rw [hD6]; trivial
      have Zg : g6.Z = fun a => g2.Z a ∨ a = D := N6.Z
      have Z2 : g2.Z = g1.Z := N2.Z
      have lz : ∀ a, g1.Z a → g6.Z a := fun a z => by rw [Zg]; exact .inl (by rw [Z2]; exact z)
      have mD6 : D ∉ g6.μ := fun m => R6.mZ D m (by rw [Zg]; exact .inr rfl)
      have Rw : Rel G g6 (L2.wipe σ vs) H6 (wipeE vs e6) M6 := by
        have := R6.wipe vs
        rw [wipe_eq his o4] at this
        exact this
      have nD6 : ∀ (j : Nat) (u : MO), (wipeE vs e6)[j]? = some (some (.own u)) → (L2.wipe σ vs)[j]? ≠ some (some (.ref D)) := fun j u h1 h2 => by
        obtain ⟨a, ea, qa, za, _⟩ := Rw.ow j u h1
        rw [h2] at ea
        cases ea
        exact za (by rw [Zg]; exact .inr rfl)
      have Rl : Rel G (g6.less g1) (L2.wipe σ vs) H6 (wipeE vs e6) M6 := Rw.less lz
      have nz : ¬ (g6.less g1).Z D := nZD
      have NU : Next (g6.less g1) H6 (g6.less g1) (upd H6 D (.lst vdone')) := upd_next nz mt _
      refine ⟨g6.less g1, e6, M6, done', vdone', rest', ⟨rfl, ?_, fun a z => ?_, fun a o q n => ?_⟩, Rl.next NU (fun b hb => upd_ne fun z => mD6 (z ▸ hb)) (fun j u b h1 h2 => upd_ne fun z => nD6 j u h1 (z ▸ h2)), upd_same, ?_, mD6, nD6, hgo', hys', hl'⟩
      · obtain ⟨l1, q1⟩ := N2.μ
        obtain ⟨l2, q2⟩ := N6.μ
        exact ⟨l1 ++ l2, by show g6.μ = _; rw [q2]; show g2.μ ++ l2 = _; rw [q1, List.append_assoc]⟩
      · have q1 := N2.kZ a z
        obtain ⟨u, qu⟩ := R1.ZH a z
        have z2 : (g2.plus D).Z a := .inl (by rw [Z2]; exact z)
        have q2 := N6.kZ a z2
        rw [upd_ne (ne1 qu), q2, qu]
        exact w3 a u (by rw [q1, qu])
      · rw [upd_ne (ne1 q)]
        exact N6.kI a o (w3 a o (N2.kI a o q n)) n
      · exact hd _ ⟨⟨[], by show g6.μ = _; simp⟩, fun a o q n => NU.kI a o q n⟩
    cases kb with
    | false =>
      rw [if_neg Bool.false_ne_true] at hgo ⊢
      have NN := N45
      have hD5 : H5 D = some (.lst vdone) := (NN.kZ D (.inr rfl)).trans hD3
      have := fin NN R5 (done' := done) (vdone' := vdone) (rest' := rest) (fun H7 NI => (((hdone.next (R2.toHRel.grows w3)).nextI plus_i).next NN).nextI NI) hgo hys (Nat.le_succ_of_le hlen)
      have eu : upd H5 D (.lst vdone) = H5 := by
        funext b
        by_cases hb : b = D
        · rw [hb, upd_same, hD5]
        · rw [upd_ne hb]
      rw [eu] at this
      exact this
    | true =>
      rw [if_pos rfl] at hgo ⊢
      obtain ⟨dv, e6, M6, hx6, hgo⟩ := bind_is_ok hgo
      obtain ⟨ys', e7, M7, hgo2, hgo⟩ := bind_is_ok hgo
      cases hgo
      refine ⟨g5, e5, M5, R5, ?_⟩
      rw [hx6]
      intro v H6 g6 N6 R6 r6
      have NN := N45.trans N6
      have hD6 : H6 D = some (.lst vdone) := (NN.kZ D (.inr rfl)).trans hD3
      refine ⟨vdone, hD6, ?_, ?_⟩
      · rw [← IsL.length hdone]
        omega
      · refine fin NN R6 (done' := done ++ [dv]) (vdone' := vdone ++ [v]) (rest' := ys') (fun H7 NI => ?_) hgo2 (by rw [hys, List.append_assoc]; rfl) (by rw [List.length_append]; exact Nat.succ_le_succ hlen)
        exact ((((hdone.next (R2.toHRel.grows w3)).nextI plus_i).next NN).nextI NI).append (by simp only [IsL]; exact ⟨r6.nextI NI, trivial⟩)
  · have ei : i = ds.length := by omega
    subst ei
    rw [List.drop_length] at hgo
    cases hgo
    refine .inl ⟨(J1 _ g2 H2 N2).2 (Nat.le_refl _), k1 (.ref D) H2 g2 (N1.trans N2) (R1.back hok N2 R2) ⟨D, rfl, ⟨vdone, hD2, by rw [hys, List.append_nil]; exact hdone⟩, by rw [N2.Z]; exact nZD, mD, fun j u h1 h2 => ?_⟩⟩
    by_cases hj : j ∈ vs
    · exact okOwn_at hok hj (backE_in hj h1)
    · rw [backE_out hj] at h1
      exact nD j u (by rw [wipeE_out hj]; exact h1) (by rw [wipe_out hj]; exact h2)
/-- as a value -/
theorem okLcE (c : XI X G W k) {elt tg iter : Expr} {ifs : List Expr} {scope : Scope} {own : List (Str × Nat)} {t : PI.TG} {it : EM (List D)} {cnd : EM Bool} {x : EM D} {is : List Nat} (hi : PII X G W tg iter it) (ok : BlkOk X.N X.env.scope scope own)
    (hg : ∀ (s : Shared) (H : Hp) (C : Addr) (cl : List (Str × Addr)) (fp : List Addr), PGI (X.blk s H scope (compEnvC scope cl C X.env) fp) G tg t is) (his : ∀ i ∈ is, i ∈ own.map (·.2))
    (ht : ∀ (s : Shared) (H : Hp) (C : Addr) (cl : List (Str × Addr)) (fp : List Addr), PTs (X.blk s H scope (compEnvC scope cl C X.env) fp) ifs (tT G W0 cnd))
    (he : ∀ (s : Shared) (H : Hp) (C : Addr) (cl : List (Str × Addr)) (fp : List Addr), PUI (X.blk s H scope (compEnvC scope cl C X.env) fp) G W0 elt x) (hs : ∀ x, foldedSetIterable iter X.env x = pure x := by intro _; rfl) :
    PEI X G W (.ListComp elt [⟨tg, iter, ifs, 0⟩] scope pos) (eLc t it cnd x (own.map (·.2))) := PE.imp (pe_lc c.calm c.nd hi ok hg ht he hs) (okLc c hi ok hg his ht he hs)
end
end PI
/-! PISnd5: lists, tuples, texts, ranges walked; defs and their calls. -/
namespace PI
open PySem PySem.Spec PyProof.Rows L2
section
variable {X : Cx} {G : Ga} {W : WX} {k : Nat} {pos : Pos}
theorem signs_get {cs : List Nat} {i : Nat} : (cs.map fun c => PI.D.str [c])[i]? = (cs[i]?).map fun c => .str [c] := by rw [List.getElem?_map]
/-- two ways to walk -/
theorem PI.or {tg e : Expr} {t t' : TI} (h : PI X tg e t) (h' : PI X tg e t') : PI X tg e (fun σ H R => t σ H R ∨ t' σ H R) := ⟨fun pins s σ H R I q => q.elim (h.run pins s σ H R I) (h'.run pins s σ H R I)⟩
/-- a further look at the state when the walk begins -/
theorem PI.look {tg e : Expr} {t : TI} (h : PI X tg e t) {t' : TI} {P : It → Hp → Prop} (w : ∀ σ H R, t' σ H R → t σ H fun J H1 => P J H1 → R J H1)
    (look : ∀ pins σ J H s, Inv X pins σ H s → P J H) : PI X tg e t' := by
  refine ⟨fun pins s σ H R I q => ?_⟩
  refine thn (h.run pins s σ H _ I (w σ H R q)) fun v s1 h1 => thn h1 fun itv s2 h2 => ?_
  obtain ⟨it, fp, tn, J, H', e, I2, T, st, f, r⟩ := h2
  exact ⟨it, fp, tn, J, H', e, I2, T, st, f, r (look _ _ _ _ _ I2)⟩
/-- every list, tuple that is tracked has no more than the line -/
def Sizes (K : PySem.W.Frag) (H : Hp) : Prop := (∀ a xs, SqL K H a xs → xs.length ≤ sizeLine) ∧ (∀ a xs, SqT K H a xs → xs.length ≤ sizeLine) ∧ (∀ a xs, Rd H a (.dK xs) → xs.length ≤ sizeLine) ∧ ∀ a xs, Rd H a (.dT xs) → xs.length ≤ sizeLine
theorem Inv.sizes {pins : List (Addr × Obj)} {σ : St} {H : Hp} {s : Shared} (I : Inv X pins σ H s) : Sizes X.K H := by
  refine ⟨fun a xs q => ?_, fun a xs q => ?_, fun a xs q => ?_, fun a xs q => ?_⟩
  · obtain ⟨its, r, _, hz⟩ := I.list q
    exact hz
  · obtain ⟨its, r, _, hz⟩ := I.tuple q
    exact hz
  · exact (q.ok I.hok).1
  · exact (q.ok I.hok).1
theorem okISeq (c : XJ X G W) {tg e : Expr} {m : EM SV} (he : PEI X G W e m) : PII X G W tg e (itSeq m) := by
  have he2 := okUse he
  have pl := pi_list (tg := tg) he2
  have pt := pi_tup (tg := tg) he2
  have ps := pi_str (tg := tg) he2
  refine PI.look (PI.or pl (PI.or pt ps)) (P := fun _ H => Sizes X.K H) (fun σ H R ⟨g, e0, M, R0, h⟩ => ?_) fun pins σ J H s I => Inv.sizes I
  have h2 := PostR.bind h
  have use : PostR G W g H σ (eUse m e0 M) fun d e' M' => PostR G W g H σ (EM.lift (itemsOf d) e' M') (fun ds e' M' => ∀ (J : It) (H' : Hp) (g' : Gs), Next g H g' H' → Rel G g' σ H' e' M' → ItIs G g' H' J ds → ds.length ≤ sizeLine → R J H') := by
    unfold eUse
    simp only [bind_ap]
    cases hm : m e0 M with
    | ok sv e1 M1 => rw [hm] at h2; exact h2
    | err x e1 M1 => rw [hm] at h2; exact h2
    | stuck => rw [hm] at h2; exact h2
  -- which kind it is
  cases hr : eUse m e0 M with
  | stuck => rw [hr] at use; exact False.elim use
  | err x e1 M1 => rw [hr] at use; exact .inl ⟨g, e0, M, R0, by rw [hr]; exact use⟩
  | ok d e1 M1 =>
    rw [hr] at use
    obtain ⟨ds, eds, K1⟩ := lift_ok use
    have kind : (∃ xs, d = .lst xs) ∨ (∃ xs, d = .tup xs ∨ d = .tupw xs) ∨ ∃ cs, d = .str cs := by
      cases d with
      | lst xs => exact .inl ⟨_, rfl⟩
      | tup xs => exact .inr (.inl ⟨_, .inl rfl⟩)
      | tupw xs => exact .inr (.inl ⟨_, .inr rfl⟩)
      | str cs => exact .inr (.inr ⟨_, rfl⟩)
      | _ => cases eds
    rcases kind with ⟨xs, rfl⟩ | ⟨xs, ed⟩ | ⟨cs, rfl⟩
    · cases eds
      refine .inl ⟨g, e0, M, R0, ?_⟩
      rw [hr]
      intro v H1 g1 N1 R1 r
      simp only [Is] at r
      obtain ⟨a, vs, rfl, lf, rl⟩ := r
      have sq : ∀ {H2 : Hp}, LF H2 G.K a vs → SqL X.K H2 a vs := fun q => by rw [c.K]; exact q.sq
      refine ⟨a, rfl, ⟨vs, sq lf⟩, fun sz => K1 _ H1 g1 N1 R1 (fun i g2 H2 N2 => ⟨fun d hd => ?_, fun hle => ?_⟩) ?_⟩
      · obtain ⟨w, hw, iw⟩ := (rl.next N2).get hd
        exact ⟨⟨vs, w, sq (lf.nextI N2.i), hw⟩, fun x H3 y => by
          obtain ⟨rfl, y⟩ := y
          have := y vs (sq (lf.nextI N2.i))
          rw [hw] at this
          cases this
          exact ⟨Grow.refl _, iw⟩⟩
      · exact ⟨vs, sq (lf.nextI N2.i), by rw [← IsL.length rl]; exact hle⟩
      · rw [IsL.length rl]
        exact sz.1 a vs (sq lf)
    · have eds' : ds = xs := by rcases ed with rfl | rfl <;> (cases eds; rfl)
      subst eds'
      refine .inr (.inl ⟨g, e0, M, R0, ?_⟩)
      rw [hr]
      intro v H1 g1 N1 R1 r
      have r : ∃ a vs, v = .ref a ∧ SqT G.K H1 a vs ∧ IsL G g1 H1 ds vs := by
        rcases ed with rfl | rfl
        · simp only [Is] at r
          obtain ⟨a, vs, e, q, r⟩ := r
          exact ⟨a, vs, e, q.t, r⟩
        · simp only [Is] at r
          obtain ⟨a, vs, e, q, r⟩ := r
          exact ⟨a, vs, e, .inl (.inl q), r⟩
      obtain ⟨a, vs, rfl, lf, rl⟩ := r
      rw [← c.K] at lf
      refine ⟨a, rfl, ⟨vs, lf⟩, fun sz => K1 _ H1 g1 N1 R1 (fun i g2 H2 N2 => ⟨fun d hd => ?_, fun hle => ?_⟩) ?_⟩
      · obtain ⟨w, hw, iw⟩ := (rl.next N2).get hd
        exact ⟨⟨vs, w, sqT_nextI N2.i lf, hw⟩, fun x H3 y => by
          obtain ⟨rfl, y⟩ := y
          have := y vs (sqT_nextI N2.i lf)
          rw [hw] at this
          cases this
          exact ⟨Grow.refl _, iw⟩⟩
      · exact ⟨vs, sqT_nextI N2.i lf, by rw [← IsL.length rl]; exact hle⟩
      · rw [IsL.length rl]
        exact sz.2.1 a vs lf
    · cases eds
      refine .inr (.inr ⟨g, e0, M, R0, ?_⟩)
      rw [hr]
      intro v H1 g1 N1 R1 r
      simp only [Is] at r
      obtain ⟨rfl, hl⟩ := r
      refine ⟨_, rfl, fun sz => K1 _ H1 g1 N1 R1 (fun i g2 H2 N2 => ⟨fun d hd => ?_, fun hle => ?_⟩) (by rw [List.length_map]; exact hl)⟩
      · rw [signs_get] at hd
        cases hc : cs[i]? with
        | none => rw [hc] at hd; cases hd
        | some cc =>
          rw [hc] at hd
          cases hd
          have hi : i < cs.length := (List.getElem?_eq_some_iff.mp hc).1
          refine ⟨by show i < (cs.toArray).size; simpa using hi, fun x H3 y => ?_⟩
          obtain ⟨rfl, c', h1, h2⟩ := y
          have h1 : (cs.toArray)[i]? = some c' := h1
          rw [List.getElem?_toArray, hc] at h1
          cases h1
          refine ⟨Grow.refl _, ?_⟩
          simp only [Is]
          exact ⟨h2, by rw [sizeLine_eq]; show 1 ≤ 16777216; omega⟩
      · show (cs.toArray).size ≤ i
        rw [List.length_map] at hle
        simpa using hle
theorem rangeD_len (lo hi : Int) : (rangeD lo hi).length = (hi - lo).toNat := by unfold rangeD; rw [List.length_map, List.length_range]
theorem it_range {g : Gs} {H : Hp} {lo hi : Int} : ItIs G g H (Itr lo (hi - lo).toNat) (rangeD lo hi) := fun i g2 H2 N2 => ⟨fun d hd => by
  unfold rangeD at hd
  rw [List.getElem?_map] at hd
  cases hr : (List.range (hi - lo).toNat)[i]? with
  | none => rw [hr] at hd; cases hd
  | some j =>
    rw [hr] at hd
    have hi' : i < (hi - lo).toNat := by
      have := (List.getElem?_eq_some_iff.mp hr).1
      simpa using this
    have ej : j = i := by
      rw [List.getElem?_range hi'] at hr
      exact (Option.some.inj hr).symm
    subst ej
    cases hd
    exact ⟨hi', fun x H3 y => by
      obtain ⟨rfl, rfl⟩ := y
      exact ⟨Grow.refl _, rfl⟩⟩, fun hle => by rw [rangeD_len] at hle; exact hle⟩
theorem vwl1 {g : Gs} {H : Hp} {d : PI.D} {vs : List V} (h : VwL G g H [d] vs) : ∃ v, vs = [v] ∧ Vw G g H d v := by
  match vs, h with
  | [v], h => exact ⟨v, rfl, h.1⟩
  | [], h => exact h.elim
  | _ :: _ :: _, h => exact h.2.elim
theorem vwl2 {g : Gs} {H : Hp} {d d' : PI.D} {vs : List V} (h : VwL G g H [d, d'] vs) : ∃ v w, vs = [v, w] ∧ Vw G g H d v ∧ Vw G g H d' w := by
  match vs, h with
  | [v, w], h => exact ⟨v, w, rfl, h.1, h.2.1⟩
  | [], h => exact h.elim
  | [_], h => exact h.2.elim
  | _ :: _ :: _ :: _, h => exact h.2.2.elim
theorem vw_int {g : Gs} {H : Hp} {i : Int} {v : V} (h : Vw G g H (.int i) v) : v = .int i := by
  rcases h with h | ⟨a, o, _, _, e⟩
  · exact h
  · cases o <;> cases e
theorem okIR1 {tg a : Expr} {p : Pos} {m : EM (List PV)} (hm : X.mg "range" = none) (ha : PAPI X G W [a] m) (hg : Gl X "range" := by rfl) (hs : starEach [a] X.env = [(false, eval a X.env)] := by rfl) : PII X G W tg (.Call (.Name "range" p) [a] [] pos) (itR1 m) :=
  PI.imp (pi_range1 hg hm ha hs) fun σ H R ⟨g, e, M, R0, h⟩ => ⟨g, e, M, R0, (PostR.bind h).mono fun ps e1 M1 _ k1 vs H1 g1 N1 R1 r => by
    obtain ⟨ds, k2, w⟩ := nowL_ok R1 r (PostR.bind (k1.from N1))
    match ds, k2, w with
    | [.int n], k2, w =>
      obtain ⟨v, rfl, q⟩ := vwl1 w
      have := vw_int q
      subst this
      by_cases hn : -100000 ≤ n ∧ n ≤ 100000
      · simp only [if_pos hn] at k2
        have e0 : n.toNat = (n - 0).toNat := by rw [Int.sub_zero]
        exact ⟨n, rfl, by omega, by omega, k2 _ H1 g1 N1 R1 (by rw [e0]; exact it_range) (by rw [rangeD_len, sizeLine_eq]; omega)⟩
      · simp only [if_neg hn] at k2
        exact False.elim k2
    | [], k2, w => exact False.elim k2
    | d :: d' :: r, k2, w => cases d <;> exact False.elim k2
    | [.non], k2, _ | [.bl _], k2, _ | [.str _], k2, _ | [.tup _], k2, _ | [.tupw _], k2, _ | [.lst _], k2, _ | [.dic _], k2, _ | [.ins _ _], k2, _ | [.exn _ _], k2, _ | [.obj _], k2, _ | [.fn _], k2, _ | [.cls _], k2, _ | [.ty _], k2, _ => exact False.elim k2⟩
/-! ### defs -/
/-- what a def promises: what my function gives -/
def PostF (G : Ga) (g : Gs) (H : Hp) (Q : VK) (E : XK) (r : FR) : Prop := match r with
  | .ok s M' => ∀ (v : V) (H' : Hp) (g' : Gs), Next g H g' H' → HRel G g' H' M' → SVIs G g' H' [] [] v s → Q v H'
  | .err x M' => ∀ (H' : Hp) (g' : Gs) (cls : Value) (d : Option Addr), Next g H g' H' → HRel G g' H' M' → XIs G g' H' cls d x → E cls d H'
  | .stuck => False
def SpI (G : Ga) (n : Nat) (f : FT) : Sp := fun vs H Q E => ∃ g ds M, HRel G g H M ∧ (∀ a, (∃ o, H a = some o) → a ∉ g.μ → g.Z a) ∧ IsL G g H ds vs ∧ ds.length = n ∧ PostF G g H Q E (f ds M)
structure RoomI (p : Bool) (k : Nat) (A : Around) : Prop where
  r : Room k A
  g : GdOk p A
theorem RoomI.mono {p : Bool} {j k : Nat} {A : Around} (r : RoomI p k A) (h : j ≤ k) : RoomI p j A := ⟨r.r.mono h, r.g⟩
theorem guards_deeper {p : Bool} {A : Around} {env : PySem.Env} (h : GdOk p A) : GdOk p (A.deeper env) := by
  first | exact h | (simp [Around.deeper, Around.under, pushGuards, Code.guards, Code.isGuard]; exact h)
structure FnI (P : Program) (w : World) (G : Ga) (mg : Str → Option Value) (base : Heap) (k : Nat) (f : Addr) (fd : FuncData) (ps : List Str) (sem : FT) : Prop where
  run : ∀ (A : Around) (outer : List PySem.Env) (s : Shared) (H : Hp) (args : Args) (us : List Value) (vs : List V) (Q : VK) (E : XK), RoomI G.pg k A → Env0 P w G.K mg base A outer s H → BindsTo s fd args (ps.zip us) → Vals vs us → SpI G ps.length sem vs H Q E →
    codeAny (model P w) A (.call (.ref f) args) (CR (L2N.CX P w) outer P w H s Q E) s
theorem FnI.mono {P : Program} {w : World} {G : Ga} {mg : Str → Option Value} {base : Heap} {j k : Nat} {f : Addr} {fd : FuncData} {ps : List Str} {sem : FT} (F : FnI P w G mg base j f fd ps sem) (h : j ≤ k) : FnI P w G mg base k f fd ps sem :=
  ⟨fun A outer s H args us vs Q E hr => F.run A outer s H args us vs Q E (hr.mono h)⟩
theorem startE_len (ns : Nat) (ds : List PI.D) (h : ds.length ≤ ns) : (startE ns ds).length = ns := by unfold startE; rw [List.length_append, List.length_map, List.length_replicate]; omega
theorem rel_start {G : Ga} {g : Gs} {H : Hp} {M : MH} {N : List Str} {ds : List PI.D} {vs : List V} (R : HRel G g H M) (q : IsL G g H ds vs) (hl : ds.length ≤ N.length) : Rel G g (L2.start N vs) H (startE N.length ds) M := by
  have lv := IsL.length q
  have noOwn : ∀ (i : Nat) (o : MO), (startE N.length ds)[i]? ≠ some (some (.own o)) := fun i o h => by
    unfold startE at h
    by_cases hi : i < ds.length
    · rw [List.getElem?_append_left (by simpa using hi), List.getElem?_map] at h
      cases e : ds[i]? with
      | none => rw [e] at h; cases h
      | some d => rw [e] at h; cases h
    · rw [List.getElem?_append_right (by simpa using hi), List.getElem?_replicate] at h
      split at h <;> cases h
  refine ⟨R, by rw [startE_len _ _ hl]; unfold L2.start; rw [List.length_append, List.length_map, List.length_replicate]; omega, fun i d h => ?_, fun i o h => absurd h (noOwn i o), fun i j a o o' h => absurd h (noOwn i o)⟩
  unfold startE at h
  by_cases hi : i < ds.length
  · rw [List.getElem?_append_left (by simpa using hi), List.getElem?_map] at h
    cases e : ds[i]? with
    | none => rw [e] at h; cases h
    | some d' =>
      rw [e] at h
      cases h
      obtain ⟨v, e2, r⟩ := q.get e
      refine ⟨v, ?_, r⟩
      unfold L2.start
      rw [List.getElem?_append_left (by simp; omega), List.getElem?_map, e2] <;> rfl
  · rw [List.getElem?_append_right (by simpa using hi), List.getElem?_replicate] at h
    split at h <;> cases h
section
variable {P : Program} {w : World} {mg : Str → Option Value} {base : Heap} {xn qual : Str} {params : Arguments} {body : List Stmt} {scope : Scope} {dvs : List V} {kws : List (Str × V)} {f : Addr} {fd : FuncData}
/-- THE RULE: a def of the text keeps what my function says -/
theorem FnI.of {N ps : List Str} {b : EM Fl} (F : FunD G.K xn qual params body scope dvs kws f fd) (S : FnScope N ps scope)
    (hb : ∀ (cdv : Value) (A : Around) (outer : List PySem.Env) (s : Shared) (H : Hp) (E : XK), XI (cxOf (L2N.CX P w) P w G.K mg base N qual scope f cdv A outer s H E) G (fun cls d _ H => E cls d H) k →
      PSsI (cxOf (L2N.CX P w) P w G.K mg base N qual scope f cdv A outer s H E) G (fun cls d _ H => E cls d H) body b) :
    FnI P w G mg base (k + 1) f fd ps (mkF ps.length N.length b) := by
  obtain ⟨oc, od, dV, kV, doc, pm, an, cdv, ct, osl, rfl, lk, hcd, _, _⟩ := F.ex
  refine ⟨fun A outer s H args us vs Q E hr e0 hbd r hsp => ?_⟩
  obtain ⟨g, ds, M, R, hZ, q, hn, post⟩ := hsp
  have hl : vs.length = ps.length := by rw [← IsL.length q]; exact hn
  have KX : G.K.In s.heap := e0.mod.kin.keeps fun b o e => (e0.bs b o e).1
  have lim : s.heap.NoLimit := e0.mod.nolimit.keeps fun b o e => (e0.bs b o e).1
  have hkind : ∀ y ∈ ps.zip us, scope.names.lookup y.1 = some .local ∨ (scope.names.lookup y.1 = some .cell ∧ ((cellsFrom (s.heap.objs.size + 1) scope.names []).lookup y.1).isSome = true) := fun ⟨n, v⟩ hy => by
    rcases S.par n (List.of_mem_zip hy).1 with q | q
    · exact .inl q
    · exact .inr ⟨q, PySem.W.cellsFrom_some _ _ _ (.inl q)⟩
  refine codeAny_call_function hr.r.depth (KX _ _ lk) rfl S.co S.gen rfl (PySem.W.codeRec_of KX hcd) (hbd _ _ _ _ ?_)
  refine wpAny_newFunctionEnv_cells S.kind hkind fun env he s1 x => ?_
  subst he
  refine ⟨lim.keeps x.toInCall.keep, codeAny_func ?_⟩
  have I : Inv (cxOf (L2N.CX P w) P w G.K mg base N qual scope f cdv A outer s H E) [] (L2.start N vs) H s1 := inv_start S hr.r.hd e0 hl r x
  have hN : ps.length ≤ N.length := by have := congrArg List.length S.pre; rw [List.length_take] at this; omega
  have c : XI (cxOf (L2N.CX P w) P w G.K mg base N qual scope f cdv A outer s H E) G (fun cls d _ H => E cls d H) k :=
    ⟨⟨rfl, S.nd, (L2H.roomH_of (hr.r.deeper _)).mono (Nat.zero_le _), guards_deeper hr.g, L2N.takes_of rfl rfl rfl rfl, passes_of rfl⟩, L2H.roomH_of (hr.r.deeper _), rfl, (hr.r.deeper _).hd⟩
  have body_ok := hb cdv A outer s H E c
  have RR := rel_start (N := N) R q (by omega)
  have Zc : ∀ a, ¬ g.Z a → a ∉ g.μ → H a = none := fun a z m => by
    cases e : H a with
    | none => rfl
    | some o => exact absurd (hZ a ⟨o, e⟩ m) z
  have fin : tS G (fun cls d _ H => E cls d H) b { nx := fun _ H' => Q .non H', rt := Q } (L2.start N vs) H := by
    refine ⟨g, startE N.length ds, M, RR, ?_⟩
    unfold mkF at post
    rw [if_pos hn] at post
    cases hbr : b (startE N.length ds) M with
    | stuck => rw [hbr] at post; exact post
    | err xx e' M' =>
      rw [hbr] at post
      exact fun σ' H' g' cls d N' R' xi => post H' g' cls d N' R'.toHRel xi
    | ok fl e' M' =>
      rw [hbr] at post
      cases fl with
      | nx => exact fun σ' H' g' N' R' => post .non H' g' N' R'.toHRel rfl
      | ret sv => exact post
      | bk => exact False.elim post
      | ct => exact False.elim post
  refine wpAny_mono (body_ok.run [] s1 (L2.start N vs) H _ I fin) (fun fl s' hs => ?_) fun e s' hs => hs
  have fin2 : ∀ {σ' : St} {H' : Hp} {v : V} {u : Value}, Inv (cxOf (L2N.CX P w) P w G.K mg base N qual scope f cdv A outer s H E) [] σ' H' s' → RelV v u → Q v H' → CE outer P w H s Q u s' :=
    fun {σ' H' v u} J rv q => ⟨v, H', J.os, J.bare, J.base, J.hok, rv, q⟩
  cases fl with
  | ret u =>
    obtain ⟨v, σ', H', J, rv, q⟩ := hs
    exact fin2 J rv q
  | next =>
    obtain ⟨σ', H', J, q⟩ := hs
    exact fin2 (v := V.non) (u := Value.none) J rfl q
  | brk =>
    obtain ⟨_, _, _, q⟩ := hs
    exact False.elim q
  | cont =>
    obtain ⟨_, _, _, q⟩ := hs
    exact False.elim q
end
end
end PI
/-! PISnd6: calls of defs. -/
namespace PI
open PySem PySem.Spec PyProof.Rows L2
section
variable {X : Cx} {G : Ga} {W : WX} {k : Nat} {f : Addr} {fd : FuncData} {ps : List Str} {sem : FT} {pos p : Pos} {x : Str} {a : Expr} {es : List Expr}
/-- what the callee gets: everything is foreign but the shared objects -/
def gCall (g : Gs) (H : Hp) : Gs := ⟨fun a => (∃ o, H a = some o) ∧ a ∉ g.μ, g.μ⟩
theorem HRel.call {g : Gs} {H : Hp} {M : MH} (R : HRel G g H M) : HRel G (gCall g H) H M :=
  ⟨fun a h => h.1, R.len, R.nd, fun a h z => z.2 h, fun n a o h1 h2 => (R.ob n a o h1 h2).nextI (g' := gCall g H) ⟨⟨[], by simp [gCall]⟩, fun a o h _ => h⟩ rfl⟩
theorem IsL.call {g : Gs} {H : Hp} {ds : List PI.D} {vs : List V} (q : IsL G g H ds vs) : IsL G (gCall g H) H ds vs := q.nextI ⟨⟨[], by simp [gCall]⟩, fun a o h _ => h⟩
section
variable {g g' : Gs} {σ : St} {H H' : Hp} {e : PI.Env} {M M' : MH}
/-- back at home -/
def gHome (g g' : Gs) : Gs := ⟨g.Z, g'.μ⟩
theorem nextI_home : NextI g' H' (gHome g g') H' := ⟨⟨[], by simp [gHome]⟩, fun a o h _ => h⟩
theorem next_home (R : HRel G g H M) (N : Next (gCall g H) H g' H') : Next g H (gHome g g') H' :=
  ⟨rfl, N.μ, fun a h => N.kZ a ⟨R.ZH a h, fun m => R.mZ a m h⟩, N.kI⟩
theorem hrel_home (R : HRel G g H M) (N : Next (gCall g H) H g' H') (R' : HRel G g' H' M') : HRel G (gHome g g') H' M' :=
  ⟨fun a h => R'.ZH a (by rw [N.Z]; exact ⟨R.ZH a h, fun m => R.mZ a m h⟩), R'.len, R'.nd, fun a m h => R'.mZ a m (by rw [N.Z]; exact ⟨R.ZH a h, fun m' => R.mZ a m' h⟩), fun n a o h1 h2 => (R'.ob n a o h1 h2).nextI nextI_home rfl⟩
theorem rel_home (R : Rel G g σ H e M) (N : Next (gCall g H) H g' H') (R' : HRel G g' H' M') : Rel G (gHome g g') σ H' e M' := by
  have NI : NextI g H (gHome g g') H' := (next_home R.toHRel N).i
  refine ⟨hrel_home R.toHRel N R', R.el, fun i d h => let ⟨v, e1, q⟩ := R.sl i d h; ⟨v, e1, q.nextI NI⟩, fun i o h => ?_, R.di⟩
  obtain ⟨a, e1, q, z, m⟩ := R.ow i o h
  have zc : (gCall g H).Z a := ⟨q.some, m⟩
  exact ⟨a, e1, q.nextI NI (N.kZ a zc), z, fun m' => R'.mZ a m' (by rw [N.Z]; exact zc)⟩
theorem sv_home (R : Rel G g σ H e M) (N : Next (gCall g H) H g' H') {v : V} {s : SV} (h : SVIs G g' H' [] [] v s) : SVIs G (gHome g g') H' σ e v s := by
  cases s with
  | val d => exact Is.nextI (d := d) nextI_home h
  | own o =>
    obtain ⟨a, rfl, q, z, m, _⟩ := h
    refine ⟨a, rfl, q.nextI nextI_home rfl, fun z' => z ?_, m, fun i o' h1 h2 => z ?_⟩
    · rw [N.Z]
      exact ⟨R.ZH a z', fun m' => R.mZ a m' z'⟩
    · obtain ⟨b, e1, qb, zb, mb⟩ := R.ow i o' h1
      rw [h2] at e1
      cases e1
      rw [N.Z]
      exact ⟨qb.some, mb⟩
theorem fl_home (h : ∀ f x, G.fld f = x → True) {cls : Value} {d : Option Addr} {x : Xn} (q : XIs G g' H' cls d x) : XIs G (gHome g g') H' cls d x := by
  obtain ⟨e, q⟩ := q
  refine ⟨e, ?_⟩
  cases d with
  | none => exact q
  | some dd =>
    obtain ⟨vfs, e1, q⟩ := q
    exact ⟨vfs, e1, q.nextI nextI_home⟩
/-- a def's promise from the wish of the caller -/
theorem spI_of (R : Rel G g σ H e M) {ds : List PI.D} {vs : List V} {n : Nat} (hn : ds.length = n) (q : IsL G g H ds vs) {Q : VK} (h : PostR G W g H σ ((sem ds M).to e) fun s e' M' => ∀ (v : V) (H' : Hp) (g' : Gs), Next g H g' H' → Rel G g' σ H' e' M' → SVIs G g' H' σ e' v s → Q v H') :
    SpI G n sem vs H Q (fun cls d H' => W cls d σ H') := by
  refine ⟨gCall g H, ds, M, R.toHRel.call, fun a h m => ⟨h, m⟩, q.call, hn, ?_⟩
  cases hs : sem ds M with
  | stuck => rw [hs] at h; exact h
  | ok s M' =>
    rw [hs] at h
    exact fun v H' g' N R' r => h v H' (gHome g g') (next_home R.toHRel N) (rel_home R N R') (sv_home R N r)
  | err xx M' =>
    rw [hs] at h
    exact fun H' g' cls d N R' r => h H' (gHome g g') cls d (next_home R.toHRel N) (rel_home R N R') (fl_home (fun _ _ _ => trivial) r)
end
/-- the callee runs -/
theorem run_fnI (F : FnI X.prog X.w G X.mg X.base k f fd ps sem) (c : XI X G W k) {pins : List (Addr × Obj)} {σ : St} {H : Hp} {s : Shared} {Q : VK} {args : Args} {us : List Value} {vs : List V} (I : Inv X pins σ H s) (hb : BindsTo s fd args (ps.zip us)) (r : Vals vs us)
    (h : SpI G ps.length sem vs H Q (fun cls d H' => W cls d σ H')) {ff : Value → List Value → List (Str × Value) → Sem Value} : codeAny (model X.prog X.w) X.A (.call (.ref f) args) (fun r s' => match r with | .ok (.ret u) => EP X pins σ Q u s' | .ok _ => False | .error e => X.xe e s') s := by
  have e0 := I.env0
  rw [c.K] at e0
  refine codeAny_mono (F.run X.A X.stack s H args us vs Q _ ⟨c.roomC, c.gd⟩ e0 hb r h) fun r s' hq => ?_
  cases r with
  | error e => exact c.tk _ _ (L2N.XE.of_call I (fun cls d H' z => z) hq)
  | ok fl =>
    cases fl with
    | ret u => exact I.after hq
    | next => exact False.elim hq
    | brk => exact False.elim hq
    | cont => exact False.elim hq
theorem isL_len {g : Gs} {H : Hp} {ds : List PI.D} {vs : List V} (q : IsL G g H ds vs) {us : List Value} (r : Vals vs us) : us.length = ds.length := by rw [q.length]; exact r.length.symm
theorem okCall (c : XI X G W k) (F : FnI X.prog X.w G X.mg X.base k f fd ps sem) (hm : X.mg x = some (.ref f)) (hk : PySem.W.keepIn X.K (.ref f) = true) {n : Nat} {dd : List PI.D} {dv : List V} {dvs : List Value} (hb : Binds X.K fd ps dvs) (hd : Vals dv dvs) (hdI : ∀ g H, IsL G g H dd dv)
    {m : EM (List PI.D)} (ha : PAI X G W (a :: es) m) (hlen : (a :: es).length + dd.length = ps.length := by rfl)
    (hln : ∀ e M ds e' M', m e M = .ok ds e' M' → ds.length = (a :: es).length) (hg : Gl X x := by rfl) (hdb : (x == ("__debug__" : Str)) = false := by decide) (he : starEach (a :: es) X.env = (false, eval a X.env) :: starEach es X.env := by rfl) (hpl : (backTo pos (starEach es X.env)).any (·.1) = false := by rfl) :
    PEI X G W (.Call (.Name x p) (a :: es) [] pos) (eCallD sem dd m) := by
  refine ⟨fun pins s σ H Q I ⟨g, e, M, R, h⟩ => ?_⟩
  refine wpAny_Call_Name_kw (ld_glob I hg hm ?_ hdb)
  refine PySem.W.callWith_K (h₀ := X.base) I.ok.mod.kin hk (thn (ha.run pos pins s σ H (fun vs H1 => ∃ g1 e1 M1 ds, IsL G g1 H1 ds vs ∧ ds.length + dd.length = ps.length ∧ Next g H g1 H1 ∧ Rel G g1 σ H1 e1 M1 ∧ PostR G W g H σ ((sem (ds ++ dd) M1).to e1) fun s e' M' => ∀ (v : V) (H' : Hp) (g' : Gs), Next g H g' H' → Rel G g' σ H' e' M' → SVIs G g' H' σ e' v s → Q v H') I
    ⟨g, e, M, R, (PostR.bind h).mono fun ds e1 M1 eq k1 vs H1 g1 N1 R1 r => ⟨g1, e1, M1, ds, r, by rw [hln _ _ _ _ _ eq]; exact hlen, N1, R1, k1⟩⟩) fun us s1 ⟨vs, H1, I1, r, g1, e1, M1, ds, q, hl, N1, R1, k1⟩ => ⟨I1.kIn, ?_⟩) he hpl
  have r2 : Vals (vs ++ dv) (us ++ dvs) := r.append hd
  have q2 : IsL G g1 H1 (ds ++ dd) (vs ++ dv) := IsL.append q (hdI g1 H1)
  have hu : (us ++ dvs).length = ps.length := by rw [isL_len q2 r2, List.length_append]; exact hl
  have k2 : PostR G W g1 H1 σ ((sem (ds ++ dd) M1).to e1) fun s e' M' => ∀ (v : V) (H' : Hp) (g' : Gs), Next g1 H1 g' H' → Rel G g' σ H' e' M' → SVIs G g' H' σ e' v s → Q v H' :=
    (PostR.from N1 k1).mono fun s e' M' _ kk v H' g' N' => kk v H' g' (N1.trans N')
  refine wpAny_call (codeAny_mono (run_fnI F c I1 (hb s1 us I1.kIn hu) r2 (spI_of R1 (by rw [List.length_append]; exact hl) q2 k2) (ff := fun v _ _ => Sem.pure v)) fun r s' hq => ?_)
  cases r with
  | error e => exact hq
  | ok fl => cases fl with
    | ret u => exact hq
    | next => exact hq
    | brk => exact hq
    | cont => exact hq
end
end PI
/-! PISnd7: values read as data; operators, comparisons, subscripts, slices. -/
namespace PI
open PySem PySem.Spec PyProof.Rows L2
section
variable {G : Ga} {g : Gs} {H : Hp} {v : V}
theorem vw_lst {ds : List D} (h : Vw G g H (.lst ds) v) : ∃ a vs, v = .ref a ∧ SqL G.K H a vs ∧ IsL G g H ds vs := by
  rcases h with h | ⟨a, o, rfl, q, e⟩
  · simp only [Is] at h
    obtain ⟨a, vs, rfl, lf, r⟩ := h
    exact ⟨a, vs, rfl, lf.sq, r⟩
  · cases o with
    | lst xs =>
      cases e
      obtain ⟨vs, q, r⟩ := q
      exact ⟨a, vs, rfl, .inl (.inl q), r⟩
    | _ => cases e
theorem vw_tup {ds : List D} (h : Vw G g H (.tup ds) v) : ∃ a vs, v = .ref a ∧ SqS H G.K a vs ∧ IsL G g H ds vs := by
  rcases h with h | ⟨a, o, rfl, q, e⟩
  · simpa only [Is] using h
  · cases o <;> cases e
theorem vw_tupw {ds : List D} (h : Vw G g H (.tupw ds) v) : ∃ a vs, v = .ref a ∧ H a = some (.tup vs) ∧ IsL G g H ds vs := by
  rcases h with h | ⟨a, o, rfl, q, e⟩
  · simpa only [Is] using h
  · cases o <;> cases e
theorem vw_str {cs : List Nat} (h : Vw G g H (.str cs) v) : v = .str ⟨cs.toArray⟩ ∧ cs.length ≤ sizeLine := by
  rcases h with h | ⟨a, o, rfl, q, e⟩
  · simpa only [Is] using h
  · cases o <;> cases e
theorem vw_bl {b : Bool} (h : Vw G g H (.bl b) v) : v = .bl b := by
  rcases h with h | ⟨a, o, rfl, q, e⟩
  · exact h
  · cases o <;> cases e
theorem vw_non (h : Vw G g H .non v) : v = .non := by
  rcases h with h | ⟨a, o, rfl, q, e⟩
  · exact h
  · cases o <;> cases e
theorem vw_dic {kvs : List (D × D)} (h : Vw G g H (.dic kvs) v) : ∃ a, v = .ref a ∧ ((∃ ks, Rd H a (.dK ks) ∧ IsK G g H kvs ks) ∨ ∃ ks, Rd H a (.dT ks) ∧ kvs ≠ [] ∧ IsT G g H kvs ks) := by
  rcases h with h | ⟨a, o, rfl, q, e⟩
  · simp only [Is] at h
    obtain ⟨a, o, rfl, ⟨ks, q, r⟩ | ⟨ks, q, r⟩⟩ := h
    · exact ⟨a, rfl, .inl ⟨ks, .inr ⟨o, q⟩, r⟩⟩
    · exact ⟨a, rfl, .inr ⟨ks, .inr ⟨o, q⟩, r⟩⟩
  · cases o with
    | dic xs =>
      cases e
      rcases q with ⟨ks, q, r⟩ | ⟨ks, q, r⟩
      · exact ⟨a, rfl, .inl ⟨ks, .inl q, r⟩⟩
      · exact ⟨a, rfl, .inr ⟨ks, .inl q, r⟩⟩
    | _ => cases e
theorem isK_len : ∀ {kvs : List (D × D)} {ks : List (Key × V)}, IsK G g H kvs ks → kvs.length = ks.length
  | [], [], _ => rfl
  | (k, d) :: r, (q, v) :: s, h => by
    simp only [IsK] at h
    exact congrArg Nat.succ (isK_len h.2.2)
  | [], _ :: _, h => by simp only [IsK] at h
  | (_, _) :: _, [], h => by simp only [IsK] at h
theorem isT_keys : ∀ {kvs : List (D × D)} {ks : List (List Key × V)}, IsT G g H kvs ks → (kvs.all (·.1.flatKey)) = true → kvs = [] ∧ ks = []
  | [], [], _, _ => ⟨rfl, rfl⟩
  | (k, d) :: r, (q, v) :: s, h, e => by
    cases k with
    | tup ks => simp [D.flatKey] at e
    | _ => simp only [IsT] at h
  | [], _ :: _, h, _ => by simp only [IsT] at h
  | (k, _) :: _, [], h, _ => by cases k <;> simp only [IsT] at h
theorem datK_keys : ∀ {kvs : List (D × D)} {ps}, datK kvs = some ps → (kvs.all (·.1.flatKey)) = true
  | [], _, _ => rfl
  | (k, d) :: r, ps, h => by
    simp only [datK] at h
    split at h
    · rename_i hk
      cases h1 : dat k with
      | none => rw [h1] at h; cases h
      | some q =>
        rw [h1] at h
        cases h2 : dat d with
        | none => rw [h2] at h; cases h
        | some p =>
          rw [h2] at h
          cases h3 : datK r with
          | none => rw [h3] at h; cases h
          | some ps' =>
            rw [List.all_cons, Bool.and_eq_true]
            exact ⟨hk, datK_keys h3⟩
    · cases h
/-- keys, values of a dict as the layer has them -/
theorem isK_key {k : D} {q : Key} (f : k.flatKey = true) (h : Is G g H k (kV q)) : (∃ i, k = .int i ∧ q = .inl i) ∨ ∃ cs : List Nat, k = .str cs ∧ q = .inr ⟨cs.toArray⟩ := by
  cases k with
  | int i =>
    cases q with
    | inl j => simp only [Is, kV] at h; cases h; exact .inl ⟨i, rfl, rfl⟩
    | inr x => simp only [Is, kV] at h; cases h
  | str cs =>
    cases q with
    | inl j => simp only [Is, kV] at h; cases h.1
    | inr x => simp only [Is, kV] at h; cases h.1; exact .inr ⟨cs, rfl, rfl⟩
  | _ => cases f
end
/-! ### data -/
section
variable {X : Cx} {G : Ga} {W : WX} {k : Nat} {g : Gs} {H : Hp} {pins : List (Addr × Obj)} {σ : St} {s : Shared}
/-- a list stands at the first place -/
def LstAt (s : Shared) : Prop := ∃ o, s.heap.get? sysModules = some o ∧ o.cls = .type "list"
def RdA (s : Shared) (u : Value) (p : PyData) : Prop := ∃ as, Reads s.heap u p as ∧ (noLst p = true → sysModules ∉ as) ∧ (sysModules ∈ as → LstAt s)
def RdAll (s : Shared) (us : List Value) (ps : List PyData) : Prop := ∃ as, ReadsAll s.heap us ps as ∧ (noLstL ps = true → sysModules ∉ as) ∧ (sysModules ∈ as → LstAt s)
theorem noLstK_split : ∀ {qs ps : List PyData}, qs.length = ps.length → noLstK (qs.zip ps) = (noLstL qs && noLstL ps)
  | [], [], _ => rfl
  | q :: qs, p :: ps, h => by
    simp only [List.zip_cons_cons, noLstK, noLstL]
    rw [noLstK_split (by simpa using h)]
    cases noLst q <;> cases noLst p <;> cases noLstL qs <;> cases noLstL ps <;> rfl
  | [], _ :: _, h => by simp at h
  | _ :: _, [], h => by simp at h
theorem rd_list {a : Addr} {vs : List V} {ps : List PyData} (hK : X.K = G.K) (I : Inv X pins σ H s) (q : SqL G.K H a vs) (h : ∀ us, Vals vs us → RdAll s us ps) : RdA s (.ref a) (.list ps) := by
  rw [← hK] at q
  obtain ⟨its, rv, ⟨o, n, ho, hc, _, hd⟩, _⟩ := I.list q
  obtain ⟨as, hr, _, h3⟩ := h its rv
  exact ⟨_, Reads.list ho hc hd hr, (fun z => by cases z), fun hm => by
    rcases List.mem_cons.mp hm with e | hm
    · subst e; exact ⟨o, ho, hc⟩
    · exact h3 hm⟩
theorem rd_tup {a : Addr} {vs : List V} {ps : List PyData} (hK : X.K = G.K) (I : Inv X pins σ H s) (q : SqT G.K H a vs) (h : ∀ us, Vals vs us → RdAll s us ps) : RdA s (.ref a) (.tuple ps) := by
  rw [← hK] at q
  obtain ⟨its, rv, ⟨o, ho, hc, n, hd⟩, _⟩ := I.tuple q
  obtain ⟨as, hr, hn⟩ := h its rv
  exact ⟨_, Reads.tuple ho hc hd hr, hn⟩
theorem pairs_split {P : Program} {w : World} : ∀ {es : List DictEntry} {vs : List (Key × Value)}, Pairs (mixKind P w) es vs → Vals (vs.map fun p => kV p.1) (es.map (·.key)) ∧ es.map (·.val) = vs.map (·.2)
  | _, _, .nil => ⟨.nil, rfl⟩
  | _, _, .cons hk hv r => by
    obtain ⟨h1, h2⟩ := pairs_split r
    exact ⟨.cons (relV_key hk) h1, by rw [List.map_cons, List.map_cons, hv, h2]⟩
theorem kv_split : ∀ {ks : List (Key × V)} {vs : List (Key × Value)}, KV ks vs → vs.map (fun p => kV p.1) = ks.map (fun p => kV p.1) ∧ Vals (ks.map (·.2)) (vs.map (·.2))
  | _, _, .nil => ⟨rfl, .nil⟩
  | _, _, .cons h r => by
    obtain ⟨h1, h2⟩ := kv_split r
    exact ⟨by rw [List.map_cons, List.map_cons, h1, h.1], .cons h.2 h2⟩
theorem rd_dic {a : Addr} {ks : List (Key × V)} {qs ps : List PyData} (I : Inv X pins σ H s) (q : Rd H a (.dK ks)) (hl : qs.length = ps.length) (h1 : ∀ us, Vals (ks.map fun p => kV p.1) us → RdAll s us qs) (h2 : ∀ us, Vals (ks.map (·.2)) us → RdAll s us ps) :
    RdA s (.ref a) (.dict (qs.zip ps)) := by
  obtain ⟨z, hs, vs, kv, o, es, ep, ho, hx, hd, hko, hp, nd⟩ := q.ok I.hok
  obtain ⟨e1, e2⟩ := pairs_split hp
  obtain ⟨e3, e4⟩ := kv_split kv
  rw [e3] at e1
  rw [← e2] at e4
  obtain ⟨as, r1, n1, m1⟩ := h1 _ e1
  obtain ⟨bs, r2, n2, m2⟩ := h2 _ e4
  refine ⟨_, Reads.dict ho hx.1 hd (as := as) (bs := bs) ?_ ?_, fun z hm => ?_, fun hm => ?_⟩
  · rw [List.map_fst_zip (by omega)]; exact r1
  · rw [List.map_snd_zip (by omega)]; exact r2
  · simp only [noLst] at z
    rw [noLstK_split hl, Bool.and_eq_true] at z
    rcases List.mem_append.mp hm with hm | hm
    · rcases List.mem_cons.mp hm with e | hm
      · subst e
        simp at hs
      · exact n1 z.1 hm
    · exact n2 z.2 hm
  · rcases List.mem_append.mp hm with hm | hm
    · rcases List.mem_cons.mp hm with e | hm
      · subst e
        simp at hs
      · exact m1 hm
    · exact m2 hm
theorem zip_fst_snd {α β : Type} : ∀ ps : List (α × β), (ps.map (·.1)).zip (ps.map (·.2)) = ps
  | [] => rfl
  | p :: ps => by simp only [List.map_cons, List.zip_cons_cons, zip_fst_snd ps]
theorem noL_app {p : PyData} {ps : List PyData} {as bs : List Addr} {L : Prop} (h1 : (noLst p = true → sysModules ∉ as) ∧ (sysModules ∈ as → L)) (h2 : (noLstL ps = true → sysModules ∉ bs) ∧ (sysModules ∈ bs → L)) : (noLstL (p :: ps) = true → sysModules ∉ as ++ bs) ∧ (sysModules ∈ as ++ bs → L) := ⟨fun z hm => by
  simp only [noLstL, Bool.and_eq_true] at z
  rcases List.mem_append.mp hm with hm | hm
  · exact h1.1 z.1 hm
  · exact h2.1 z.2 hm, fun hm => by
  rcases List.mem_append.mp hm with hm | hm
  · exact h1.2 hm
  · exact h2.2 hm⟩
mutual
theorem Is.reads (hK : X.K = G.K) (I : Inv X pins σ H s) : ∀ {d : D} {p : PyData} {v : V} {u : Value}, Is G g H d v → dat d = some p → RelV v u → RdA s u p
  | .non, p, v, u, h, e, r => by
    simp only [Is] at h
    subst h
    cases r
    cases e
    exact ⟨_, Reads.none, (fun _ h => nomatch h), (fun h => nomatch h)⟩
  | .bl b, p, v, u, h, e, r => by
    simp only [Is] at h
    subst h
    cases r
    cases e
    exact ⟨_, Reads.bool b, (fun _ h => nomatch h), (fun h => nomatch h)⟩
  | .int i, p, v, u, h, e, r => by
    simp only [Is] at h
    subst h
    obtain ⟨t, rfl⟩ := r
    cases e
    exact ⟨_, Reads.int i t, (fun _ h => nomatch h), (fun h => nomatch h)⟩
  | .str cs, p, v, u, h, e, r => by
    simp only [Is] at h
    obtain ⟨rfl, _⟩ := h
    obtain ⟨t, rfl⟩ := r
    cases e
    exact ⟨_, Reads.str _ t, (fun _ h => nomatch h), (fun h => nomatch h)⟩
  | .tup ds, p, v, u, h, e, r => by
    simp only [Is] at h
    obtain ⟨a, vs, rfl, q, rl⟩ := h
    cases r
    simp only [dat] at e
    cases e1 : datL ds with
    | none => rw [e1] at e; cases e
    | some ps =>
      rw [e1] at e
      cases e
      exact rd_tup hK I q.t fun us ru => Is.readsL hK I rl e1 ru
  | .tupw ds, p, v, u, h, e, r => by
    simp only [Is] at h
    obtain ⟨a, vs, rfl, q, rl⟩ := h
    cases r
    simp only [dat] at e
    cases e1 : datL ds with
    | none => rw [e1] at e; cases e
    | some ps =>
      rw [e1] at e
      cases e
      exact rd_tup hK I (.inl (.inl q)) fun us ru => Is.readsL hK I rl e1 ru
  | .lst ds, p, v, u, h, e, r => by
    simp only [Is] at h
    obtain ⟨a, vs, rfl, q, rl⟩ := h
    cases r
    simp only [dat] at e
    cases e1 : datL ds with
    | none => rw [e1] at e; cases e
    | some ps =>
      rw [e1] at e
      cases e
      exact rd_list hK I q.sq fun us ru => Is.readsL hK I rl e1 ru
  | .dic kvs, p, v, u, h, e, r => by
    simp only [Is] at h
    obtain ⟨a, o, rfl, q⟩ := h
    cases r
    simp only [dat] at e
    cases e1 : datK kvs with
    | none => rw [e1] at e; cases e
    | some ps =>
      rw [e1] at e
      cases e
      rcases q with ⟨ks, q, rl⟩ | ⟨ks, q, rl⟩
      · obtain ⟨h1, h2⟩ := Is.readsK hK I rl e1
        have := rd_dic I (.inr ⟨o, q⟩) (by rw [List.length_map, List.length_map]) h1 h2
        rw [zip_fst_snd] at this
        exact this
      · exact absurd (isT_keys rl.2 (datK_keys e1)).1 rl.1
  | .ins _ _, p, v, u, h, e, r => by cases e
  | .exn _ _, p, v, u, h, e, r => by cases e
  | .obj _, p, v, u, h, e, r => by cases e
  | .fn _, p, v, u, h, e, r => by cases e
  | .cls _, p, v, u, h, e, r => by cases e
  | .ty _, p, v, u, h, e, r => by cases e
theorem Is.readsL (hK : X.K = G.K) (I : Inv X pins σ H s) : ∀ {ds : List D} {ps : List PyData} {vs : List V} {us : List Value}, IsL G g H ds vs → datL ds = some ps → Vals vs us → RdAll s us ps
  | [], ps, [], us, h, e, r => by
    cases r
    cases e
    exact ⟨_, .nil, (fun _ h => nomatch h), (fun h => nomatch h)⟩
  | d :: ds, ps, v :: vs, us, h, e, r => by
    simp only [IsL] at h
    cases r with
    | cons r1 r2 =>
      simp only [datL] at e
      cases e1 : dat d with
      | none => rw [e1] at e; cases e
      | some p =>
        rw [e1] at e
        cases e2 : datL ds with
        | none => rw [e2] at e; cases e
        | some ps' =>
          rw [e2] at e
          cases e
          obtain ⟨as, q1, n1⟩ := Is.reads hK I h.1 e1 r1
          obtain ⟨bs, q2, n2⟩ := Is.readsL hK I h.2 e2 r2
          exact ⟨_, .cons q1 q2, noL_app n1 n2⟩
  | [], _, _ :: _, _, h, _, _ => by simp only [IsL] at h
  | _ :: _, _, [], _, h, _, _ => by simp only [IsL] at h
theorem Is.readsK (hK : X.K = G.K) (I : Inv X pins σ H s) : ∀ {kvs : List (D × D)} {ps : List (PyData × PyData)} {ks : List (Key × V)}, IsK G g H kvs ks → datK kvs = some ps →
    (∀ us, Vals (ks.map fun p => kV p.1) us → RdAll s us (ps.map (·.1))) ∧ ∀ us, Vals (ks.map (·.2)) us → RdAll s us (ps.map (·.2))
  | [], ps, [], h, e => by
    cases e
    exact ⟨fun us r => by cases r; exact ⟨_, .nil, (fun _ h => nomatch h), (fun h => nomatch h)⟩, fun us r => by cases r; exact ⟨_, .nil, (fun _ h => nomatch h), (fun h => nomatch h)⟩⟩
  | (k, d) :: kvs, ps, (q, v) :: ks, h, e => by
    simp only [IsK] at h
    simp only [datK] at e
    split at e
    · cases e1 : dat k with
      | none => rw [e1] at e; cases e
      | some pk =>
        rw [e1] at e
        cases e2 : dat d with
        | none => rw [e2] at e; cases e
        | some pd =>
          rw [e2] at e
          cases e3 : datK kvs with
          | none => rw [e3] at e; cases e
          | some ps' =>
            rw [e3] at e
            cases e
            obtain ⟨h1, h2⟩ := Is.readsK hK I h.2.2 e3
            refine ⟨fun us r => ?_, fun us r => ?_⟩
            · cases r with
              | cons r1 r2 =>
                obtain ⟨as, q1, n1⟩ := Is.reads hK I h.1 e1 r1
                obtain ⟨bs, q2, n2⟩ := h1 _ r2
                exact ⟨_, .cons q1 q2, noL_app n1 n2⟩
            · cases r with
              | cons r1 r2 =>
                obtain ⟨as, q1, n1⟩ := Is.reads hK I h.2.1 e2 r1
                obtain ⟨bs, q2, n2⟩ := h2 _ r2
                exact ⟨_, .cons q1 q2, noL_app n1 n2⟩
    · cases e
  | [], _, _ :: _, h, _ => by simp only [IsK] at h
  | (_, _) :: _, _, [], h, _ => by simp only [IsK] at h
end
theorem Vw.reads (hK : X.K = G.K) (I : Inv X pins σ H s) {d : D} {p : PyData} {v : V} {u : Value} (h : Vw G g H d v) (e : dat d = some p) (r : RelV v u) : RdA s u p := by
  rcases h with h | ⟨a, o, rfl, q, rfl⟩
  · exact Is.reads hK I h e r
  · cases r
    cases o with
    | lst ds =>
      obtain ⟨vs, q, rl⟩ := q
      simp only [MO.snap, dat] at e
      cases e1 : datL ds with
      | none => rw [e1] at e; cases e
      | some ps =>
        rw [e1] at e
        cases e
        exact rd_list hK I (.inl (.inl q)) fun us ru => Is.readsL hK I rl e1 ru
    | dic kvs =>
      simp only [MO.snap, dat] at e
      cases e1 : datK kvs with
      | none => rw [e1] at e; cases e
      | some ps =>
        rw [e1] at e
        cases e
        rcases q with ⟨ks, q, rl⟩ | ⟨ks, q, rl⟩
        · obtain ⟨h1, h2⟩ := Is.readsK hK I rl e1
          have := rd_dic I (.inl q) (by rw [List.length_map, List.length_map]) h1 h2
          rw [zip_fst_snd] at this
          exact this
        · exact absurd (isT_keys rl.2 (datK_keys e1)).1 rl.1
    | ins c fs => cases e
end
end PI
/-! PISnd8: operators, comparisons, subscripts, slices are sound. -/
namespace PI
open PySem PySem.Spec PyProof.Rows L2
section
variable {X : Cx} {G : Ga} {W : WX} {k : Nat} {g : Gs} {H : Hp} {pins : List (Addr × Obj)} {σ : St} {s : Shared}
/-- a new tuple in the run -/
theorem Inv.newTup (I : Inv X pins σ H s) {vs : List V} {us : List Value} (r : Vals vs us) (hz : vs.length ≤ sizeLine) :
    ∃ H', Inv X pins σ H' { s with heap := s.heap.push { cls := .type "tuple", data := .seq us.toArray } } ∧ Grow H H' ∧ ∀ K, SqS H' K s.heap.objs.size vs := by
  have hf : H s.heap.objs.size = none := I.hok.fresh (Nat.le_refl _)
  refine ⟨upd H s.heap.objs.size (.frz _ (.tup vs)), I.laid (t' := s.toks) (fun b u e => Heap.get?_push_of_some _ e) (Nat.le_refl _) ⟨Heap.get?_push_size _ rfl, hz, us, r, ⟨_, Heap.get?_push_size _ rfl, rfl, _, rfl⟩⟩, Grow.upd hf, fun K => .inl ⟨_, upd_same, rfl⟩⟩
theorem Inv.newLst (I : Inv X pins σ H s) {vs : List V} {us : List Value} (r : Vals vs us) (hz : vs.length ≤ sizeLine) :
    ∃ H', Inv X pins σ H' { s with heap := s.heap.push { cls := .type "list", data := .seq us.toArray } } ∧ Grow H H' ∧ H s.heap.objs.size = none ∧ H' s.heap.objs.size = some (.lst vs) :=
  ⟨_, I.lnew (t' := s.toks) r hz, Grow.upd I.fresh, I.fresh, upd_same⟩
theorem HRel.gn (R : HRel G g H M) {H' : Hp} (w : Grow H H') {ds : List D} {vs : List V} (q : IsL G g H ds vs) : IsL G g H' ds vs := q.next (R.grows w)
theorem isL_nil {ds : List D} (h : IsL G g H ds []) : ds = [] := List.length_eq_zero_iff.mp (IsL.length h)
theorem line_of {n : Nat} (h : okLen n = true) : n ≤ sizeLine := by
  have := of_decide_eq_true h
  rw [sizeLine_eq]; omega
theorem small_cmul {i j : Int} (h : (small i || small j) = true) : CMul i j := by
  rcases Bool.or_eq_true _ _ ▸ h with h | h
  · exact .inl (of_decide_eq_true h)
  · exact .inr (of_decide_eq_true h)
theorem ok_add (hK : X.K = G.K) : OpR X (binaryOp .Add) (rOp2 G fAdd) := by
  intro pins s σ H x y v u Q I rx ry ⟨g, M, d1, d2, r, R, v1, v2, e, q⟩
  unfold fAdd at e
  split at e
  · cases e
    cases vw_int v1
    cases vw_int v2
    exact op_add pins s σ H _ _ v u Q I rx ry ⟨_, _, rfl, rfl, q _ _ (Grow.refl _) rfl⟩
  · split at e
    · rename_i hl
      cases e
      obtain ⟨rfl, _⟩ := vw_str v1
      obtain ⟨rfl, _⟩ := vw_str v2
      have hl' := line_of hl
      refine op_add_str pins s σ H _ _ v u Q I rx ry ⟨_, _, rfl, rfl, by simpa [Str.length] using hl', q _ _ (Grow.refl _) ⟨?_, by simpa using hl'⟩⟩
      show V.str ⟨_ ++ _⟩ = V.str ⟨_⟩
      rw [List.append_toArray]
    · cases e
  · split at e
    · rename_i hl
      cases e
      obtain ⟨a, vs, rfl, q1, r1⟩ := vw_lst v1
      obtain ⟨b, ws, rfl, q2, r2⟩ := vw_lst v2
      rw [← hK] at q1 q2
      cases rx
      cases ry
      obtain ⟨its, rv1, ⟨⟨cls, dd, data, sl⟩, n, ho, hc, _, hd⟩, _⟩ := I.list q1
      obtain ⟨its2, rv2, ⟨⟨cls2, dd2, data2, sl2⟩, n2, ho2, hc2, _, hd2⟩, _⟩ := I.list q2
      simp only at hc hd hc2 hd2
      subst hc hd hc2 hd2
      have hl' := line_of hl
      have hz : vs.length + ws.length ≤ sizeLine := by rw [← r1.length, ← r2.length]; exact hl'
      have e : its.toArray ++ its2.toArray = (its ++ its2).toArray := by simp
      refine concat_meets ⟨_, ho, rfl⟩ ⟨_, ho2, rfl⟩ noFill_list_add seq_list_add PySem.F.slot_list_add PySem.F.entry_list_add (PySem.F.args_list_add_2 _ _) (list_addW a b its.toArray its2.toArray n n2 dd dd2 sl sl2 (by
        rw [List.size_toArray, List.size_toArray, ← rv1.length, ← rv2.length]; exact hz)) ⟨ho, ho2, ?_⟩
      rw [e]
      obtain ⟨H', I', w, f, h'⟩ := Inv.newLst I (rv1.append rv2) (by rw [List.length_append]; exact hz)
      exact ⟨.ref _, H', I', rfl, q _ H' w ⟨_, rfl, f, _, h', IsL.append (R.gn w r1) (R.gn w r2)⟩⟩
    · cases e
  · split at e
    · rename_i hl
      cases e
      obtain ⟨a, vs, rfl, q1, r1⟩ := vw_tup v1
      obtain ⟨b, ws, rfl, q2, r2⟩ := vw_tup v2
      cases rx
      cases ry
      have t1 := q1.t
      have t2 := q2.t
      rw [← hK] at t1 t2
      obtain ⟨its, rv1, p1, _⟩ := I.tuple t1
      obtain ⟨its2, rv2, p2, _⟩ := I.tuple t2
      have hl' := line_of hl
      have hz : vs.length + ws.length ≤ sizeLine := by rw [← r1.length, ← r2.length]; exact hl'
      by_cases hx : vs = []
      · subst hx
        cases rv1
        refine cat_tup0 p1 p2 ⟨.ref b, H, I, rfl, q _ H (Grow.refl _) ?_⟩
        show Is G g H (.tup _) _
        simp only [Is]
        refine ⟨b, ws, rfl, q2, ?_⟩
        rw [isL_nil r1, List.nil_append]
        exact r2
      · refine HT.cat_tup p1 p2 (fun z => hx (rv1.nil_iff.mp z)) (fun z => ⟨.ref a, H, I, rfl, q _ H (Grow.refl _) ?_⟩) (fun z => ?_) (by rw [← rv1.length, ← rv2.length]; exact hz)
        · have hw := rv2.nil_iff.mp z
          subst hw
          show Is G g H (.tup _) _
          simp only [Is]
          refine ⟨a, vs, rfl, q1, ?_⟩
          rw [isL_nil r2, List.append_nil]
          exact r1
        · obtain ⟨H', I', w, f⟩ := Inv.newTup I (rv1.append rv2) (by rw [List.length_append]; exact hz)
          refine ⟨.ref _, H', I', rfl, q _ H' w ?_⟩
          show Is G g H' (.tup _) _
          simp only [Is]
          exact ⟨_, _, rfl, f _, IsL.append (R.gn w r1) (R.gn w r2)⟩
    · cases e
  · cases e
theorem ok_sub : OpR X (binaryOp .Sub) (rOp2 G fSub) := by
  intro pins s σ H x y v u Q I rx ry ⟨g, M, d1, d2, r, R, v1, v2, e, q⟩
  unfold fSub at e
  split at e
  · cases e
    cases vw_int v1
    cases vw_int v2
    exact op_sub pins s σ H _ _ v u Q I rx ry ⟨_, _, rfl, rfl, q _ _ (Grow.refl _) rfl⟩
  · cases e
theorem ok_mod : OpR X (binaryOp .Mod) (rOp2 G fMod) := by
  intro pins s σ H x y v u Q I rx ry ⟨g, M, d1, d2, r, R, v1, v2, e, q⟩
  unfold fMod at e
  split at e
  · split at e
    · rename_i hj
      cases e
      cases vw_int v1
      cases vw_int v2
      exact op_mod pins s σ H _ _ v u Q I rx ry ⟨_, _, rfl, rfl, hj, q _ _ (Grow.refl _) rfl⟩
    · cases e
  · cases e
theorem log_30 {j : Int} (h0 : 0 < j) (h : j < 10 ^ 30) : j.natAbs.log2 < 9000 := by
  have h1 : j.natAbs < 2 ^ 100 := by omega
  have := (Nat.log2_lt (by omega)).mpr h1
  omega
theorem ok_div : OpR X (binaryOp .FloorDiv) (rOp2 G fDiv) := by
  intro pins s σ H x y v u Q I rx ry ⟨g, M, d1, d2, r, R, v1, v2, e, q⟩
  unfold fDiv at e
  split at e
  · split at e
    · rename_i hj
      cases e
      cases vw_int v1
      cases vw_int v2
      exact op_fdivW pins s σ H _ _ v u Q I rx ry ⟨_, _, rfl, rfl, ⟨hj.1, log_30 hj.1 hj.2⟩, q _ _ (Grow.refl _) rfl⟩
    · cases e
  · cases e
theorem ok_pow : OpR X (binaryOp .Pow) (rOp2 G fPow) := by
  intro pins s σ H x y v u Q I rx ry ⟨g, M, d1, d2, r, R, v1, v2, e, q⟩
  unfold fPow at e
  split at e
  · split at e
    · rename_i hj
      cases e
      cases vw_int v1
      cases vw_int v2
      have hs := of_decide_eq_true hj.2.2.1
      exact op_pow pins s σ H _ _ v u Q I rx ry ⟨_, _, rfl, rfl, ⟨hj.1, by omega, by omega⟩, q _ _ (Grow.refl _) rfl⟩
    · cases e
  · cases e
theorem ok_neg : UnR X (unaryOp .USub) (rOp1 G fNeg) := by
  intro pins s σ H x v Q I rx ⟨g, M, d, r, R, v1, e, q⟩
  unfold fNeg at e
  split at e
  · cases e
    cases vw_int v1
    exact un_neg pins s σ H _ v Q I rx ⟨_, rfl, q _ _ (Grow.refl _) rfl⟩
  · cases e
end
end PI
/-! PISnd9: comparisons, in, subscripts are sound. -/
namespace PI
open PySem PySem.Spec PyProof.Rows L2
section
variable {X : Cx} {G : Ga} {W : WX} {k : Nat} {g : Gs} {H : Hp} {pins : List (Addr × Obj)} {σ : St} {s : Shared}
theorem bind2_some {x y : D} {γ : Type} {f : PyData → PyData → Option γ} {r : γ} (h : ((dat x).bind fun p => (dat y).bind fun q => f p q) = some r) : ∃ p q, dat x = some p ∧ dat y = some q ∧ f p q = some r := by
  cases h1 : dat x with
  | none => rw [h1] at h; cases h
  | some p =>
    rw [h1] at h
    cases h2 : dat y with
    | none => rw [h2] at h; cases h
    | some q =>
      rw [h2] at h
      exact ⟨p, q, rfl, rfl, h⟩
theorem str_beq (a b : List Nat) : ((⟨a.toArray⟩ : Str) == ⟨b.toArray⟩) = (a == b) := by
  rw [Bool.eq_iff_iff, beq_iff_eq, beq_iff_eq]
  exact ⟨fun h => by simpa using h, fun h => by rw [h]⟩
theorem fEq_data {x y : D} {r : Bool} (h : fEq x y = some r) : ∃ p q, dat x = some p ∧ dat y = some q ∧ eqOk p q = true ∧ r = PyData.eqv p q := by
  unfold fEq at h
  split at h
  · cases h; exact ⟨_, _, rfl, rfl, rfl, by simp [PyData.eqv]⟩
  · cases h; exact ⟨_, _, rfl, rfl, rfl, by simp [PyData.eqv, str_beq]⟩
  · cases h; exact ⟨_, _, rfl, rfl, rfl, by simp [PyData.eqv]⟩
  · obtain ⟨p, q, h1, h2, h⟩ := bind2_some h
    split at h
    · cases h; exact ⟨p, q, h1, h2, by assumption, rfl⟩
    · cases h
theorem units_min {A : Around} {a b : Nat} (hu : A.units + 64 < cLine) (h : decide (min a b ≤ 60) = true) : A.units + min a b < cLine := by
  have := of_decide_eq_true h
  omega
theorem ok_eq (c : XJ X G W) : OpR X (compareOp .Eq) (rCm G fEq) := by
  intro pins s σ H x y v u Q I rx ry ⟨g, M, d1, d2, r, R, v1, v2, e, q⟩
  obtain ⟨p, q', e1, e2, ok, rfl⟩ := fEq_data e
  obtain ⟨as, r1, _⟩ := Vw.reads c.K I v1 e1 rx
  obtain ⟨bs, r2, _⟩ := Vw.reads c.K I v2 e2 ry
  simp only [eqOk, Bool.and_eq_true] at ok
  exact SeqAt.eq_plain r1 r2 ok.1.1 ok.1.2 (units_min c.room.units ok.2) ⟨.bl _, H, I, rfl, q⟩
theorem ok_ne (c : XJ X G W) : OpR X (compareOp .NotEq) (rCm G fNe) := by
  intro pins s σ H x y v u Q I rx ry ⟨g, M, d1, d2, r, R, v1, v2, e, q⟩
  obtain ⟨r', e', rfl⟩ := Option.map_eq_some_iff.mp e
  obtain ⟨p, q', e1, e2, ok, rfl⟩ := fEq_data e'
  obtain ⟨as, r1, _⟩ := Vw.reads c.K I v1 e1 rx
  obtain ⟨bs, r2, _⟩ := Vw.reads c.K I v2 e2 ry
  simp only [eqOk, Bool.and_eq_true] at ok
  exact SeqAt.ne_plain r1 r2 ok.1.1 ok.1.2 (units_min c.room.units ok.2) ⟨.bl _, H, I, rfl, q⟩
theorem cmpOk_parts {p q : PyData} (h : cmpOk p q = true) : PySem.W.alike p q = true ∧ p ≠ .none ∧ p.depth ≤ 60 := by
  simp only [cmpOk, Bool.and_eq_true, decide_eq_true_eq] at h
  exact ⟨h.1.1, fun z => by rw [z] at h; exact absurd h.1.2 (by simp), h.2⟩
theorem units_cmp {A : Around} {p q : PyData} (hu : A.units + 64 < cLine) (h : p.depth ≤ 60) : A.units + min p.depth q.depth < cLine := by
  have := Nat.min_le_left p.depth q.depth
  omega
theorem cmp_ints (a b : Int) : cmpOk (.int a) (.int b) = true := by simp [cmpOk, PySem.W.alike, PyData.depth]
theorem fLt_data {x y : D} {r : Bool} (h : fLt x y = some r) : ∃ p q, dat x = some p ∧ dat y = some q ∧ cmpOk p q = true ∧ r = PySem.W.dataLt p q := by
  unfold fLt at h
  split at h
  · cases h; exact ⟨_, _, rfl, rfl, cmp_ints _ _, (PySem.W.dataLt_int _ _).symm⟩
  · obtain ⟨p, q, h1, h2, h⟩ := bind2_some h
    split at h
    · cases h; exact ⟨p, q, h1, h2, by assumption, rfl⟩
    · cases h
theorem fLe_data {x y : D} {r : Bool} (h : fLe x y = some r) : ∃ p q, dat x = some p ∧ dat y = some q ∧ cmpOk p q = true ∧ r = !PySem.W.dataLt q p := by
  unfold fLe at h
  split at h
  · cases h; exact ⟨_, _, rfl, rfl, cmp_ints _ _, by rw [PySem.W.dataLt_int, PySem.W.not_lt_int]⟩
  · obtain ⟨p, q, h1, h2, h⟩ := bind2_some h
    split at h
    · cases h; exact ⟨p, q, h1, h2, by assumption, rfl⟩
    · cases h
theorem fGt_data {x y : D} {r : Bool} (h : fGt x y = some r) : ∃ p q, dat x = some p ∧ dat y = some q ∧ cmpOk p q = true ∧ r = PySem.W.dataLt q p := by
  unfold fGt at h
  split at h
  · cases h; exact ⟨_, _, rfl, rfl, cmp_ints _ _, (PySem.W.dataLt_int _ _).symm⟩
  · obtain ⟨p, q, h1, h2, h⟩ := bind2_some h
    split at h
    · cases h; exact ⟨p, q, h1, h2, by assumption, rfl⟩
    · cases h
theorem fGe_data {x y : D} {r : Bool} (h : fGe x y = some r) : ∃ p q, dat x = some p ∧ dat y = some q ∧ cmpOk p q = true ∧ r = !PySem.W.dataLt p q := by
  unfold fGe at h
  split at h
  · cases h; exact ⟨_, _, rfl, rfl, cmp_ints _ _, by rw [PySem.W.dataLt_int, PySem.W.not_lt_int]⟩
  · obtain ⟨p, q, h1, h2, h⟩ := bind2_some h
    split at h
    · cases h; exact ⟨p, q, h1, h2, by assumption, rfl⟩
    · cases h
theorem ok_lt (c : XJ X G W) : OpR X (compareOp .Lt) (rCm G fLt) := by
  intro pins s σ H x y v u Q I rx ry ⟨g, M, d1, d2, r, R, v1, v2, e, q⟩
  obtain ⟨p, q', e1, e2, ok, rfl⟩ := fLt_data e
  obtain ⟨as, r1, _⟩ := Vw.reads c.K I v1 e1 rx
  obtain ⟨bs, r2, _⟩ := Vw.reads c.K I v2 e2 ry
  obtain ⟨k1, k2, k3⟩ := cmpOk_parts ok
  exact PySem.W.lt_data r1 r2 k1 k2 (units_cmp c.room.units k3) ⟨.bl _, H, I, rfl, q⟩
theorem ok_le (c : XJ X G W) : OpR X (compareOp .LtE) (rCm G fLe) := by
  intro pins s σ H x y v u Q I rx ry ⟨g, M, d1, d2, r, R, v1, v2, e, q⟩
  obtain ⟨p, q', e1, e2, ok, rfl⟩ := fLe_data e
  obtain ⟨as, r1, _⟩ := Vw.reads c.K I v1 e1 rx
  obtain ⟨bs, r2, _⟩ := Vw.reads c.K I v2 e2 ry
  obtain ⟨k1, k2, k3⟩ := cmpOk_parts ok
  exact PySem.W.le_data r1 r2 k1 k2 (units_cmp c.room.units k3) ⟨.bl _, H, I, rfl, q⟩
theorem ok_gt (c : XJ X G W) : OpR X (compareOp .Gt) (rCm G fGt) := by
  intro pins s σ H x y v u Q I rx ry ⟨g, M, d1, d2, r, R, v1, v2, e, q⟩
  obtain ⟨p, q', e1, e2, ok, rfl⟩ := fGt_data e
  obtain ⟨as, r1, _⟩ := Vw.reads c.K I v1 e1 rx
  obtain ⟨bs, r2, _⟩ := Vw.reads c.K I v2 e2 ry
  obtain ⟨k1, k2, k3⟩ := cmpOk_parts ok
  exact PySem.W.gt_data r1 r2 k1 k2 (units_cmp c.room.units k3) ⟨.bl _, H, I, rfl, q⟩
theorem ok_ge (c : XJ X G W) : OpR X (compareOp .GtE) (rCm G fGe) := by
  intro pins s σ H x y v u Q I rx ry ⟨g, M, d1, d2, r, R, v1, v2, e, q⟩
  obtain ⟨p, q', e1, e2, ok, rfl⟩ := fGe_data e
  obtain ⟨as, r1, _⟩ := Vw.reads c.K I v1 e1 rx
  obtain ⟨bs, r2, _⟩ := Vw.reads c.K I v2 e2 ry
  obtain ⟨k1, k2, k3⟩ := cmpOk_parts ok
  exact PySem.W.ge_data r1 r2 k1 k2 (units_cmp c.room.units k3) ⟨.bl _, H, I, rfl, q⟩
/-! in -/
/-- a dict with flat keys -/
theorem vw_dicK {kvs : List (D × D)} {v : V} (hk : (kvs.all (·.1.flatKey)) = true) (h : Vw G g H (.dic kvs) v) : ∃ a, v = .ref a ∧ ∃ ks, Rd H a (.dK ks) ∧ IsK G g H kvs ks := by
  obtain ⟨a, e, ⟨ks, q, r⟩ | ⟨ks, q, r⟩⟩ := vw_dic h
  · exact ⟨a, e, ks, q, r⟩
  · exact absurd (isT_keys r.2 hk).1 r.1
def keyD : D → Key
  | .int i => .inl i
  | .str cs => .inr ⟨cs.toArray⟩
  | _ => .inl 0
theorem keyD_of {d : D} {q : Key} (f : d.flatKey = true) (h : Is G g H d (kV q)) : q = keyD d := by
  rcases isK_key f h with ⟨i, rfl, rfl⟩ | ⟨cs, rfl, rfl⟩ <;> rfl
theorem keyEq_iff {a b : D} (fa : a.flatKey = true) (fb : b.flatKey = true) : keyEq a b = decide (keyD a = keyD b) := by
  cases a with
  | int i => cases b with
    | int j => simp only [keyEq, keyD]; rw [Bool.eq_iff_iff]; simp
    | str cs => simp only [keyEq, keyD]; rw [Bool.eq_iff_iff]; simp
    | _ => cases fb
  | str i => cases b with
    | int j => simp only [keyEq, keyD]; rw [Bool.eq_iff_iff]; simp
    | str cs => simp only [keyEq, keyD]; rw [Bool.eq_iff_iff]; simp
    | _ => cases fb
  | _ => cases fa
theorem kV_keyD {d : D} {v : V} (f : d.flatKey = true) (h : Is G g H d v) : v = kV (keyD d) := by
  cases d with
  | int i => exact h
  | str cs => simp only [Is] at h; exact h.1
  | _ => cases f
theorem dGet_val {k : D} (fk : k.flatKey = true) : ∀ {kvs : List (D × D)} {ks : List (Key × V)}, IsK G g H kvs ks → (kvs.all (·.1.flatKey)) = true →
    match dGet kvs k with
    | some d => ∃ v, valV ks (keyD k) = some v ∧ Is G g H d v
    | none => valV ks (keyD k) = none
  | [], [], _, _ => rfl
  | (k', d) :: r, (q, v) :: s, h, f => by
    simp only [IsK] at h
    rw [List.all_cons, Bool.and_eq_true] at f
    have eq := keyD_of f.1 h.1
    subst eq
    unfold dGet
    rw [List.find?_cons]
    dsimp only
    rw [keyEq_iff f.1 fk]
    by_cases e : keyD k' = keyD k
    · rw [decide_eq_true e]
      exact ⟨v, by rw [valV_pos e], h.2.1⟩
    · rw [decide_eq_false e]
      rw [valV_neg e]
      exact dGet_val fk h.2.2 f.2
  | [], _ :: _, h, _ => by simp only [IsK] at h
  | (_, _) :: _, [], h, _ => by simp only [IsK] at h
theorem vw_flat {d : D} {v : V} (f : d.flatKey = true) (h : Vw G g H d v) : Is G g H d v := by
  rcases h with h | ⟨a, o, rfl, q, rfl⟩
  · exact h
  · cases o <;> cases f
theorem flat_vals : ∀ {l : List D} {vs : List V}, (l.all D.flatKey) = true → IsL G g H l vs → vs = (l.map keyD).map kV
  | [], [], _, _ => rfl
  | d :: l, v :: vs, f, h => by
    simp only [IsL] at h
    rw [List.all_cons, Bool.and_eq_true] at f
    rw [List.map_cons, List.map_cons, ← flat_vals f.2 h.2, ← kV_keyD f.1 h.1]
  | [], _ :: _, _, h => by simp only [IsL] at h
  | _ :: _, [], _, h => by simp only [IsL] at h
theorem keyEqL_iff : ∀ {a b : List D}, (a.all D.flatKey) = true → (b.all D.flatKey) = true → keyEqL a b = decide (a.map keyD = b.map keyD)
  | [], [], _, _ => by simp [keyEqL]
  | x :: a, y :: b, h1, h2 => by
    rw [List.all_cons, Bool.and_eq_true] at h1 h2
    simp only [keyEqL]
    rw [keyEq_iff h1.1 h2.1, keyEqL_iff h1.2 h2.2, List.map_cons, List.map_cons, Bool.eq_iff_iff]
    simp
  | [], _ :: _, _, _ => by simp [keyEqL]
  | _ :: _, [], _, _ => by simp [keyEqL]
theorem isL_flat {l : List D} : ∀ {q : List Key}, IsL G g H l (q.map kV) → (l.all D.flatKey) = true ∧ l.map keyD = q := by
  induction l with
  | nil =>
    intro q h
    cases q with
    | nil => exact ⟨rfl, rfl⟩
    | cons _ _ => simp only [List.map_cons, IsL] at h
  | cons d l ih =>
    intro q h
    cases q with
    | nil => simp only [List.map_nil, IsL] at h
    | cons x q =>
      rw [List.map_cons] at h
      simp only [IsL] at h
      obtain ⟨h1, h2⟩ := ih h.2
      have hd : d.flatKey = true ∧ keyD d = x := by
        cases x with
        | inl i => cases d <;> simp only [Is, kV] at h <;> first
            | (cases h.1; exact ⟨rfl, rfl⟩)
            | (cases h.1.1; done)
            | (obtain ⟨⟨_, _, z, _⟩, _⟩ := h; cases z; done)
            | (obtain ⟨⟨_, z, _⟩, _⟩ := h; cases z; done)
            | (obtain ⟨⟨_, _, _, _, z, _⟩, _⟩ := h; cases z; done)
            | exact h.1.elim
            | (exact absurd h.1 (by intro z; cases z))
        | inr y => cases d <;> simp only [Is, kV] at h <;> first
            | (cases h.1.1; exact ⟨rfl, rfl⟩)
            | (cases h.1; done)
            | (obtain ⟨⟨_, _, z, _⟩, _⟩ := h; cases z; done)
            | (obtain ⟨⟨_, z, _⟩, _⟩ := h; cases z; done)
            | (obtain ⟨⟨_, _, _, _, z, _⟩, _⟩ := h; cases z; done)
            | exact h.1.elim
            | (exact absurd h.1 (by intro z; cases z))
      rw [List.all_cons, List.map_cons, h1, hd.1, hd.2, h2]
      exact ⟨rfl, rfl⟩
theorem dGet_valT {l : List D} (fk : (l.all D.flatKey) = true) : ∀ {kvs : List (D × D)} {ks : List (List Key × V)}, IsT G g H kvs ks →
    match dGet kvs (.tupw l) with
    | some d => ∃ v, valV ks (l.map keyD) = some v ∧ Is G g H d v
    | none => valV ks (l.map keyD) = none
  | [], [], _ => rfl
  | (k', d) :: r, (q, v) :: s, h => by
    cases k' with
    | tup a =>
      simp only [IsT] at h
      obtain ⟨f1, f2⟩ := isL_flat h.1
      unfold dGet
      rw [List.find?_cons]
      dsimp only
      simp only [keyEq]
      rw [keyEqL_iff f1 fk, f2]
      by_cases e : q = l.map keyD
      · rw [decide_eq_true e]
        exact ⟨v, by rw [valV_pos e], h.2.1⟩
      · rw [decide_eq_false e]
        rw [valV_neg e]
        exact dGet_valT fk h.2.2
    | _ => simp only [IsT] at h
  | [], _ :: _, h => by simp only [IsT] at h
  | (k, _) :: _, [], h => by cases k <;> simp only [IsT] at h
/-- an empty dict has no tuple key either -/
theorem emptyT (I : Inv X pins σ H s) {a : Addr} (h : Rd H a (.dK [])) : (a == sysModules) = false ∧ s.heap.DictOfH (tupleKind (mixKind X.prog X.w)) a [] := by
  obtain ⟨z, hs, vs, kv, o, es, ep, ho, hx, hd, hko, hp, nd⟩ := h.ok I.hok
  cases kv
  have e0 : es.toList = [] := by
    cases hes : es.toList with
    | nil => rfl
    | cons x r => rw [hes] at hp; cases hp
  exact ⟨hs, o, es, ep, ho, hx, hd, e0, fun x hx => by (cases hx), List.nodup_nil⟩
theorem isK_tups : ∀ {kvs : List (D × D)} {ks : List (Key × V)}, IsK G g H kvs ks → (kvs.all (·.1.isTup)) = true → kvs = [] ∧ ks = []
  | [], [], _, _ => ⟨rfl, rfl⟩
  | (k, d) :: r, (q, v) :: s, h, e => by
    cases k with
    | tup a =>
      simp only [IsK, Is] at h
      obtain ⟨⟨_, _, z, _⟩, _⟩ := h
      cases q <;> cases z
    | _ => simp [D.isTup] at e
  | [], _ :: _, h, _ => by simp only [IsK] at h
  | (_, _) :: _, [], h, _ => by simp only [IsK] at h
/-- a dict looked up -/
theorem dGet_of {kvs : List (D × D)} {kd : D} {a y : V} (hk : dOk kvs kd = true) (h1 : Vw G g H (.dic kvs) a) (h2 : Vw G g H kd y) :
    ∃ p, a = .ref p ∧ ((∃ o, DGet H p y o ∧ match dGet kvs kd with
      | some d => ∃ v, o = some v ∧ Is G g H d v
      | none => o = none) ∨ (kvs = [] ∧ Rd H p (.dK []) ∧ ∃ (k : List Key) (b : Addr), y = .ref b ∧ H b = some (.tup (k.map kV)))) := by
  unfold dOk at hk
  by_cases hf : (kd.flatKey && kvs.all (·.1.flatKey)) = true
  · rw [Bool.and_eq_true] at hf
    obtain ⟨p, rfl, ks, q, r⟩ := vw_dicK hf.2 h1
    have ey := kV_keyD hf.1 (vw_flat hf.1 h2)
    subst ey
    exact ⟨p, rfl, .inl ⟨valV ks (keyD kd), .inl ⟨ks, _, q, rfl, rfl⟩, dGet_val hf.1 r hf.2⟩⟩
  · rw [Bool.or_eq_true] at hk
    have hk := hk.resolve_left hf
    rw [Bool.and_eq_true] at hk
    cases kd with
    | tupw l =>
      have hl : (l.all D.flatKey) = true := hk.1
      obtain ⟨b, vs, rfl, hb, il⟩ := vw_tupw h2
      have ev := flat_vals hl il
      subst ev
      obtain ⟨p, rfl, ⟨ks, q, r⟩ | ⟨ks, q, ne, r⟩⟩ := vw_dic h1
      · obtain ⟨e1, e2⟩ := isK_tups r hk.2
        subst e2
        exact ⟨p, rfl, .inr ⟨e1, q, _, b, rfl, hb⟩⟩
      · exact ⟨p, rfl, .inl ⟨valV ks (l.map keyD), .inr ⟨ks, _, b, q, rfl, hb, rfl⟩, dGet_valT hl r⟩⟩
    | _ => cases hk.1
theorem fIn_flat {x : D} {ys : List D} {r : Bool} (h : ((dat x).bind fun p => (datL ys).bind fun qs => if inOk p qs then some (qs.any fun q => PyData.eqv q p) else none) = some r) :
    ∃ p qs, dat x = some p ∧ datL ys = some qs ∧ p.plain = true ∧ PyData.plainAll qs = true ∧ min (PyData.depthAll qs) p.depth ≤ 60 ∧ r = qs.any fun q => PyData.eqv q p := by
  cases h1 : dat x with
  | none => rw [h1] at h; cases h
  | some p =>
    rw [h1] at h
    cases h2 : datL ys with
    | none => rw [h2] at h; cases h
    | some qs =>
      rw [h2] at h
      have h : (if inOk p qs = true then some (qs.any fun q => PyData.eqv q p) else none) = some r := h
      split at h
      · rename_i ok
        simp only [inOk, Bool.and_eq_true, decide_eq_true_eq] at ok
        cases h
        exact ⟨p, qs, rfl, rfl, ok.1.1, ok.1.2, ok.2, rfl⟩
      · cases h
theorem in_some (c : XJ X G W) {g : Gs} {M : MH} {d1 d2 : D} {x y : V} {v u : Value} {r : Bool} (I : Inv X pins σ H s) (R : HRel G g H M) (rx : RelV x v) (ry : RelV y u) (v1 : Vw G g H d1 x) (v2 : Vw G g H d2 y) (e : fIn d1 d2 = some r) {Q : Bool → Hp → Prop} (q : Q r H) :
    wpAny (model X.prog X.w) X.A (compareOp .In v u) (EP X pins σ fun z H' => ∃ b, z = .bl b ∧ Q b H') X.xe s ∧ wpAny (model X.prog X.w) X.A (compareOp .NotIn v u) (EP X pins σ fun z H' => ∃ b, z = .bl (!b) ∧ Q b H') X.xe s := by
  have hu := c.room.units
  unfold fIn at e
  split at e
  · cases e
    obtain ⟨rfl, _⟩ := vw_str v1
    obtain ⟨rfl, _⟩ := vw_str v2
    exact ⟨op_in_sign pins s σ H _ _ v u _ I rx ry ⟨_, _, rfl, rfl, _, rfl, by simpa using q⟩, op_notIn_sign pins s σ H _ _ v u _ I rx ry ⟨_, _, rfl, rfl, decide _, rfl, by simpa using q⟩⟩
  · obtain ⟨p, qs, e1, e2, k1, k2, k3, rfl⟩ := fIn_flat e
    obtain ⟨as, r1, _⟩ := Vw.reads c.K I v1 e1 rx
    obtain ⟨bs, r2, _⟩ := Vw.reads c.K I v2 (p := .list qs) (by simp [dat, e2]) ry
    exact ⟨SeqAt.in_list_data r2 r1 k2 k1 (by omega) ⟨.bl _, H, I, rfl, _, rfl, q⟩, SeqAt.notIn_list_data r2 r1 k2 k1 (by omega) ⟨.bl _, H, I, rfl, _, rfl, q⟩⟩
  · obtain ⟨p, qs, e1, e2, k1, k2, k3, rfl⟩ := fIn_flat e
    obtain ⟨as, r1, _⟩ := Vw.reads c.K I v1 e1 rx
    obtain ⟨bs, r2, _⟩ := Vw.reads c.K I v2 (p := .tuple qs) (by simp [dat, e2]) ry
    exact ⟨SeqAt.in_tuple_data r2 r1 k2 k1 (by omega) ⟨.bl _, H, I, rfl, _, rfl, q⟩, SeqAt.notIn_tuple_data r2 r1 k2 k1 (by omega) ⟨.bl _, H, I, rfl, _, rfl, q⟩⟩
  · obtain ⟨p, qs, e1, e2, k1, k2, k3, rfl⟩ := fIn_flat e
    obtain ⟨as, r1, _⟩ := Vw.reads c.K I v1 e1 rx
    obtain ⟨bs, r2, _⟩ := Vw.reads c.K I v2 (p := .tuple qs) (by simp [dat, e2]) ry
    exact ⟨SeqAt.in_tuple_data r2 r1 k2 k1 (by omega) ⟨.bl _, H, I, rfl, _, rfl, q⟩, SeqAt.notIn_tuple_data r2 r1 k2 k1 (by omega) ⟨.bl _, H, I, rfl, _, rfl, q⟩⟩
  · split at e
    · rename_i kvs hf
      cases e
      obtain ⟨a, rfl, h⟩ := dGet_of hf v2 v1
      cases ry
      rcases h with ⟨o, dg, h⟩ | ⟨e0, hr, kk, b, rfl, hb⟩
      · have eo : o.isSome = (dGet kvs d1).isSome := by
          split at h
          · rename_i d' e'
            obtain ⟨w, e1, _⟩ := h
            rw [e1, e'] <;> rfl
          · rename_i e'
            rw [h, e'] <;> rfl
        rw [← eo] at q
        exact ⟨d_in (by omega) I dg rx fun s' I' => ⟨.bl _, H, I', rfl, _, rfl, q⟩, d_notIn (by omega) I dg rx fun s' I' => ⟨.bl _, H, I', rfl, _, rfl, q⟩⟩
      · subst e0
        cases rx
        obtain ⟨hd, dd⟩ := emptyT I hr
        exact ⟨wpAny_in_heap (tupleKind_room_in1 (by omega)) (key_of I.hok hb) hd dd ⟨.bl _, H, I.tok _, rfl, _, rfl, q⟩, wpAny_notIn_heap (tupleKind_room_in1 (by omega)) (key_of I.hok hb) hd dd ⟨.bl _, H, I.tok _, rfl, _, rfl, q⟩⟩
    · cases e
  · cases e
end
end PI
/-! PISndA: in, subscripts, slices, chains of comparisons are sound. -/
namespace PI
open PySem PySem.Spec PyProof.Rows L2
section
variable {X : Cx} {G : Ga} {W : WX} {k : Nat} {g : Gs} {H : Hp} {pins : List (Addr × Obj)} {σ : St} {s : Shared}
theorem EP.imp {Q Q' : VK} {u : Value} {s : Shared} (h : EP X pins σ Q u s) (w : ∀ v H, Q v H → Q' v H) : EP X pins σ Q' u s := by
  obtain ⟨v, H', I, r, q⟩ := h
  exact ⟨v, H', I, r, w _ _ q⟩
theorem ok_in (c : XJ X G W) : OpR X (compareOp .In) (rCm G fIn) := by
  intro pins s σ H x y v u Q I rx ry ⟨g, M, d1, d2, r, R, v1, v2, e, q⟩
  refine thn (in_some c I R rx ry v1 v2 e (Q := fun b H' => Q (.bl b) H') q).1 fun w s' h => EP.imp h fun v H' ⟨b, ev, q⟩ => by rw [ev]; exact q
theorem ok_notIn (c : XJ X G W) : OpR X (compareOp .NotIn) (rCm G fNotIn) := by
  intro pins s σ H x y v u Q I rx ry ⟨g, M, d1, d2, r, R, v1, v2, e, q⟩
  obtain ⟨r', e', rfl⟩ := Option.map_eq_some_iff.mp e
  refine thn (in_some c I R rx ry v1 v2 e' (Q := fun b H' => Q (.bl (!b)) H') q).2 fun w s' h => EP.imp h fun v H' ⟨b, ev, q⟩ => by rw [ev]; exact q
/-! subscripts -/
theorem ixD_eq (n : Nat) (i : Int) : ixD n i = L2.ixN n i := rfl
theorem atD_is {ds : List D} {vs : List V} {i : Int} {d : D} (q : IsL G g H ds vs) (h : atD ds i = some d) : ∃ v, atI vs i = some v ∧ Is G g H d v := by
  unfold atD at h
  unfold atI
  rw [← q.length, ← ixD_eq]
  cases e : ixD ds.length i with
  | none => rw [e] at h; cases h
  | some j =>
    rw [e] at h
    exact q.get h
theorem ok_ix (c : XJ X G W) : IxR X (rOp2 G fIx) := by
  intro value slice pins s σ H x y v u Q I rx ry ⟨g, M, d1, d2, r, R, v1, v2, e, q⟩ hs
  have hu := c.room.units
  unfold fIx at e
  split at e
  · obtain ⟨d, e', rfl⟩ := Option.map_eq_some_iff.mp e
    obtain ⟨a, vs, rfl, q1, r1⟩ := vw_lst v1
    cases vw_int v2
    obtain ⟨w, h1, h2⟩ := atD_is r1 e'
    exact ix_list value slice pins s σ H _ _ v u Q I rx ry ⟨a, vs, _, w, rfl, rfl, by rw [c.K]; exact q1, h1, q _ _ (Grow.refl _) h2⟩ hs
  · obtain ⟨d, e', rfl⟩ := Option.map_eq_some_iff.mp e
    obtain ⟨a, vs, rfl, q1, r1⟩ := vw_tup v1
    cases vw_int v2
    obtain ⟨w, h1, h2⟩ := atD_is r1 e'
    exact ix_tup value slice pins s σ H _ _ v u Q I rx ry ⟨a, vs, _, w, rfl, rfl, by rw [c.K]; exact q1.t, h1, q _ _ (Grow.refl _) h2⟩ hs
  · obtain ⟨d, e', rfl⟩ := Option.map_eq_some_iff.mp e
    obtain ⟨a, vs, rfl, q1, r1⟩ := vw_tupw v1
    cases vw_int v2
    obtain ⟨w, h1, h2⟩ := atD_is r1 e'
    exact ix_tup value slice pins s σ H _ _ v u Q I rx ry ⟨a, vs, _, w, rfl, rfl, .inl (.inl q1), h1, q _ _ (Grow.refl _) h2⟩ hs
  · obtain ⟨d, e', rfl⟩ := Option.map_eq_some_iff.mp e
    obtain ⟨rfl, hl⟩ := vw_str v1
    cases vw_int v2
    refine ix_str value slice pins s σ H _ _ v u Q I rx ry ⟨_, _, d, rfl, rfl, by simpa [Str.length] using hl, e', q _ _ (Grow.refl _) ?_⟩ hs
    refine ⟨rfl, ?_⟩
    rw [sizeLine_eq]
    show 1 ≤ 16777216
    omega
  · split at e
    · rename_i hf
      obtain ⟨d, e', rfl⟩ := Option.map_eq_some_iff.mp e
      obtain ⟨a, rfl, h⟩ := dGet_of hf v1 v2
      cases rx
      rcases h with ⟨o, dg, h⟩ | ⟨e0, _⟩
      · rw [e'] at h
        obtain ⟨w, rfl, iw⟩ := h
        exact tail_any (dict_typeIs I dg) PySem.F.slot_dict_getitem.lookup (d_getItem (by omega) I dg ry fun w' s3 I3 rw' => ⟨w, H, I3, rw', q _ _ (Grow.refl _) iw⟩) hs
      · subst e0
        cases e'
    · cases e
  · cases e
/-! slices -/
def tO (G : Ga) (W : WX) (m : EM (Option Int)) : TO := fun σ H Q => ∃ g e M, Rel G g σ H e M ∧
  PostR G W g H σ (m e M) fun o e' M' => ∀ (H' : Hp) (g' : Gs), Next g H g' H' → Rel G g' σ H' e' M' → Q o H'
abbrev POI (X : Cx) (G : Ga) (W : WX) (e : Option Expr) (m : EM (Option Int)) : Prop := PO X e (tO G W m)
theorem PO.imp {e : Option Expr} {t t' : TO} (h : PO X e t) (w : ∀ σ H Q, t' σ H Q → t σ H Q) : PO X e t' := ⟨fun pins s σ H Q I q => h.run pins s σ H Q I (w σ H Q q)⟩
theorem okNoPart : POI X G W none eNoPart := PO.imp po_none fun σ H Q ⟨g, e, M, R, h⟩ => h H g (Next.refl _ _) R
theorem okPart {a : Expr} {m : EM PV} (ha : PPI X G W a m) : POI X G W (some a) (ePart m) :=
  PO.imp (po_some ha) fun σ H Q ⟨g, e, M, R, h⟩ => ⟨g, e, M, R, (PostR.bind h).mono fun p e1 M1 _ k1 x H1 g1 N1 R1 p1 => by
    obtain ⟨d, k2, q⟩ := now_ok R1 p1 (PostR.bind (k1.from N1))
    cases d with
    | int i => exact ⟨i, vw_int q, k2 H1 g1 N1 R1⟩
    | _ => exact False.elim k2⟩
theorem cutEnd_eq (n d : Nat) (o : Option Int) : cutEnd n d o = HT.sIx n d o := by cases o <;> rfl
theorem cut_is {ds : List D} {vs : List V} (lo hi : Option Int) (q : IsL G g H ds vs) : IsL G g H (cutD ds lo hi) (cutV vs lo hi) := by
  unfold cutD cutV
  simp only [cutEnd_eq, q.length]
  exact IsL.take _ (IsL.drop _ q)
def rCut (G : Ga) : V → Option Int → Option Int → Hp → VK → Prop := fun x lo hi H Q => ∃ g M d r, HRel G g H M ∧ Vw G g H d x ∧ fCut d lo hi = some r ∧ ∀ v H', Grow H H' → NewSV G g H H' v r → Q v H'
theorem cut_len (n : Nat) (lo hi : Option Int) : HT.sIx n 0 lo = 0 ∧ HT.sIx n n hi = n → ∀ (ds : List D), ds.length = n → cutD ds lo hi = ds := fun ⟨h1, h2⟩ ds e => by
  unfold cutD
  simp only [cutEnd_eq, e, h1, h2]
  simp [← e]
theorem ok_cut (c : XJ X G W) : SlR X (rCut G) := by
  intro pins s σ H x v vl vu lo hi sl Q I rx hs pl pu ⟨g, M, d, r, R, v1, e, q⟩
  unfold fCut at e
  split at e
  · cases e
    obtain ⟨a, vs, rfl, q1, r1⟩ := vw_lst v1
    exact sl_list pins s σ H _ v vl vu lo hi sl Q I rx hs pl pu ⟨a, vs, rfl, by rw [c.K]; exact q1, fun p hp => q _ _ (Grow.upd hp) ⟨p, rfl, hp, _, upd_same, (cut_is lo hi r1).next (R.grows (Grow.upd hp))⟩⟩
  · cases e
    obtain ⟨a, vs, rfl, q1, r1⟩ := vw_tup v1
    cases rx
    have t1 := q1.t
    rw [← c.K] at t1
    obtain ⟨its, rv, ht, hz⟩ := I.tuple t1
    have hlen : its.toArray.size = vs.length := by rw [List.size_toArray]; exact rv.length.symm
    refine ⟨"tuple", _, PyProof.Rows.slot_tuple_getitem.lookup, ht.typeIs, ?_⟩
    by_cases hw : HT.sIx vs.length 0 lo = 0 ∧ HT.sIx vs.length vs.length hi = vs.length
    · refine getItem_tuple_whole ht hs pl pu (by rw [hlen]; exact hw) ⟨.ref a, H, I, rfl, q _ H (Grow.refl _) ?_⟩
      rw [cut_len vs.length lo hi hw _ r1.length]
      show Is G g H (.tup _) _
      simp only [Is]
      exact ⟨a, vs, rfl, q1, r1⟩
    · refine HT.getItem_tuple_cut ht hs pl pu (by rw [hlen]; exact hw) ?_ (by rw [hlen]; exact hz)
      rw [hlen]
      obtain ⟨H', I', w, f⟩ := Inv.newTup I (vs := cutV vs lo hi) ((rv.drop (HT.sIx vs.length 0 lo)).take (HT.sIx vs.length vs.length hi - HT.sIx vs.length 0 lo)) (Nat.le_trans (cutV_length vs lo hi) hz)
      refine ⟨.ref _, H', I', rfl, q _ H' w ?_⟩
      show Is G g H' (.tup _) _
      simp only [Is]
      exact ⟨_, _, rfl, f _, (cut_is lo hi r1).next (R.grows w)⟩
  · cases e
    obtain ⟨rfl, hl⟩ := vw_str v1
    refine sl_str pins s σ H _ v vl vu lo hi sl Q I rx hs pl pu ⟨_, rfl, by simpa [Str.length] using hl, q _ H (Grow.refl _) ?_⟩
    unfold cutS
    refine ⟨?_, ?_⟩
    · unfold cutD
      simp [cutEnd_eq, Str.length]
    · unfold cutD
      rw [List.length_take, List.length_drop]
      omega
  · cases e
theorem okCut (c : XJ X G W) {a : Expr} {lo hi : Option Expr} {p2 pos : Pos} {m : EM PV} {ml mh : EM (Option Int)} (ha : PPI X G W a m) (hl : POI X G W lo ml) (hh : POI X G W hi mh) : PEI X G W (.Subscript a (.Slice lo hi none p2) pos) (eCut m ml mh) :=
  PE.imp (pe_slice (ok_cut c) ha hl hh) fun σ H Q ⟨g, e, M, R, h⟩ => ⟨g, e, M, R, (PostR.bind h).mono fun p e1 M1 _ k1 x H1 g1 N1 R1 p1 => ⟨g1, e1, M1, R1, ((PostR.bind k1).from N1).mono fun l e2 M2 _ k2 H2 g2 N2 R2 => ⟨g2, e2, M2, R2, (((PostR.bind k2).from N1).from N2).mono fun u e3 M3 _ k3 H3 g3 N3 R3 => by
    have k4 := ((k3.from N1).from N2).from N3
    obtain ⟨d, k5, q⟩ := now_ok R3 ((p1.next N2).next N3) (PostR.bind k4)
    obtain ⟨r, er, k6⟩ := lift_ok k5
    exact ⟨g3, M3, d, r, R3.toHRel, q, er, fun v H' w n => k6 v H' g3 (((N1.trans N2).trans N3).trans (R3.toHRel.grows w)) (R3.grow w) (n.sv R3 w)⟩⟩⟩⟩
/-! chains -/
theorem okChain {op op' : CmpOp} {f f' : D → D → Option Bool} {a b d : Expr} {pos : Pos} {ma mb md : EM PV} (ho : OpR X (compareOp op) (rCm G f)) (ho' : OpR X (compareOp op') (rCm G f')) (ha : PPI X G W a ma) (hb : PPI X G W b mb) (hd : PPI X G W d md)
    (hm : lastMarks [op, op'] [b, d] = false := by with_unfolding_all rfl) : PTI X G W (.Compare a [op, op'] [b, d] pos) (t3 f f' ma mb md) :=
  PT.imp (pt_chain ho ho' ha hb hd hm) fun σ H Q ⟨g, e, M, R, h⟩ => ⟨g, e, M, R, (PostR.bind h).mono fun p e1 M1 _ k1 x H1 g1 N1 R1 p1 => ⟨g1, e1, M1, R1, ((PostR.bind k1).from N1).mono fun q e2 M2 _ k2 y H2 g2 N2 R2 q2 => by
    have k3 := (k2.from N1).from N2
    obtain ⟨d1, k4, w1⟩ := now_ok R2 (p1.next N2) (PostR.bind k3)
    obtain ⟨d2, k5, w2⟩ := now_ok R2 q2 (PostR.bind k4)
    obtain ⟨r, er, k6⟩ := lift_ok (PostR.bind k5)
    refine ⟨g2, M2, d1, d2, r, R2.toHRel, w1, w2, er, r, rfl, ?_⟩
    cases r with
    | false => exact ⟨false, rfl, k6 H2 g2 (N1.trans N2) R2⟩
    | true =>
      refine ⟨g2, e2, M2, R2, (PostR.bind k6).mono fun z e3 M3 _ k7 w H3 g3 N3 R3 z3 => ?_⟩
      have k8 := k7.from N3
      obtain ⟨d3, k9, w3⟩ := now_ok R3 (q2.next N3) (PostR.bind k8)
      obtain ⟨d4, kA, w4⟩ := now_ok R3 z3 (PostR.bind k9)
      obtain ⟨r', er', kB⟩ := lift_ok kA
      exact ⟨g3, M3, d3, d4, r', R3.toHRel, w3, w4, er', r', rfl, kB H3 g3 ((N1.trans N2).trans N3) R3⟩⟩⟩
theorem okChainV {op op' : CmpOp} {f f' : D → D → Option Bool} {a b d : Expr} {pos : Pos} {ma mb md : EM PV} (ho : OpR X (compareOp op) (rCm G f)) (ho' : OpR X (compareOp op') (rCm G f')) (ha : PPI X G W a ma) (hb : PPI X G W b mb) (hd : PPI X G W d md)
    (hm : lastMarks [op, op'] [b, d] = false := by with_unfolding_all rfl) : PEI X G W (.Compare a [op, op'] [b, d] pos) (eBool (t3 f f' ma mb md)) :=
  PE.imp (pe_chain ho ho' ha hb hd hm) fun σ H Q ⟨g, e, M, R, h⟩ => ⟨g, e, M, R, (PostR.bind (PostR.bind h)).mono fun p e1 M1 _ k1 x H1 g1 N1 R1 p1 => ⟨g1, e1, M1, R1, ((PostR.bind k1).from N1).mono fun q e2 M2 _ k2 y H2 g2 N2 R2 q2 => by
    have k3 := (k2.from N1).from N2
    obtain ⟨d1, k4, w1⟩ := now_ok R2 (p1.next N2) (PostR.bind k3)
    obtain ⟨d2, k5, w2⟩ := now_ok R2 q2 (PostR.bind k4)
    obtain ⟨r, er, k6⟩ := lift_ok (PostR.bind k5)
    refine ⟨g2, M2, d1, d2, r, R2.toHRel, w1, w2, er, r, rfl, ?_⟩
    cases r with
    | false => exact k6 (.bl false) H2 g2 (N1.trans N2) R2 rfl
    | true =>
      refine ⟨g2, e2, M2, R2, (PostR.bind k6).mono fun z e3 M3 _ k7 w H3 g3 N3 R3 z3 => ?_⟩
      have k8 := k7.from N3
      obtain ⟨d3, k9, w3⟩ := now_ok R3 (q2.next N3) (PostR.bind k8)
      obtain ⟨d4, kA, w4⟩ := now_ok R3 z3 (PostR.bind k9)
      obtain ⟨r', er', kB⟩ := lift_ok kA
      exact ⟨g3, M3, d3, d4, r', R3.toHRel, w3, w4, er', kB (.bl r') H3 g3 ((N1.trans N2).trans N3) R3 rfl⟩⟩⟩
end
end PI
/-! PISndB: built-in functions are sound. -/
namespace PI
open PySem PySem.Spec PyProof.Rows L2
section
variable {X : Cx} {G : Ga} {W : WX} {k : Nat} {g : Gs} {H : Hp} {pins : List (Addr × Obj)} {σ : St} {s : Shared}
theorem blsD_vals : ∀ {ds : List D} {bs : List Bool} {vs : List V}, blsD ds = some bs → IsL G g H ds vs → vs = bs.map V.bl
  | [], _, [], e, _ => by cases e; rfl
  | d :: ds, bs, v :: vs, e, h => by
    cases d with
    | bl b =>
      simp only [blsD] at e
      obtain ⟨bs', e', rfl⟩ := Option.map_eq_some_iff.mp e
      simp only [IsL, Is] at h
      rw [List.map_cons, ← blsD_vals e' h.2, h.1]
    | _ => cases e
  | [], _, _ :: _, _, h => by simp only [IsL] at h
  | _ :: _, _, [], _, h => by simp only [IsL] at h
theorem intsD_vals : ∀ {ds : List D} {ns : List Int} {vs : List V}, intsD ds = some ns → IsL G g H ds vs → vs = ns.map V.int
  | [], _, [], e, _ => by cases e; rfl
  | d :: ds, bs, v :: vs, e, h => by
    cases d with
    | int b =>
      simp only [intsD] at e
      obtain ⟨bs', e', rfl⟩ := Option.map_eq_some_iff.mp e
      simp only [IsL, Is] at h
      rw [List.map_cons, ← intsD_vals e' h.2, h.1]
    | _ => cases e
  | [], _, _ :: _, _, h => by simp only [IsL] at h
  | _ :: _, _, [], _, h => by simp only [IsL] at h
theorem ok_len (c : XJ X G W) : CallR X (.builtin "len") (rB G fLen) := by
  intro pins s σ H xs us Q I r ⟨g, M, ds, rr, R, w, e, q⟩
  unfold fLen at e
  split at e
  · cases e
    obtain ⟨v, rfl, h⟩ := vwl1 w
    obtain ⟨a, vs, rfl, q1, r1⟩ := vw_lst h
    exact call_len_seq pins s σ H _ us Q I r ⟨a, vs, rfl, .inl (by rw [c.K]; exact q1), q _ _ (Grow.refl _) (congrArg (fun n : Nat => V.int n) r1.length.symm)⟩
  · cases e
    obtain ⟨v, rfl, h⟩ := vwl1 w
    obtain ⟨a, vs, rfl, q1, r1⟩ := vw_tup h
    exact call_len_seq pins s σ H _ us Q I r ⟨a, vs, rfl, .inr (by rw [c.K]; exact q1.t), q _ _ (Grow.refl _) (congrArg (fun n : Nat => V.int n) r1.length.symm)⟩
  · cases e
    obtain ⟨v, rfl, h⟩ := vwl1 w
    obtain ⟨a, vs, rfl, q1, r1⟩ := vw_tupw h
    exact call_len_seq pins s σ H _ us Q I r ⟨a, vs, rfl, .inr (.inl (.inl q1)), q _ _ (Grow.refl _) (congrArg (fun n : Nat => V.int n) r1.length.symm)⟩
  · cases e
    obtain ⟨v, rfl, h⟩ := vwl1 w
    obtain ⟨rfl, hl⟩ := vw_str h
    refine call_len_str pins s σ H _ us Q I r ⟨_, rfl, by simpa [Str.length] using hl, q _ _ (Grow.refl _) ?_⟩
    show V.int _ = V.int _
    simp [Str.length]
  · split at e
    · rename_i hf
      cases e
      obtain ⟨v, rfl, h⟩ := vwl1 w
      obtain ⟨a, rfl, ks, q1, r1⟩ := vw_dicK hf h
      rw [Vals.ref1 r]
      exact d_len I q1 fun t s' I' => ⟨.int ks.length, H, I', ⟨t, rfl⟩, q _ _ (Grow.refl _) (congrArg (fun n : Nat => V.int n) (isK_len r1).symm)⟩
    · cases e
  · cases e
theorem ok_all (c : XI X G W k) : CallR X (.builtin "all") (rB G fAll) := by
  intro pins s σ H xs us Q I r ⟨g, M, ds, rr, R, w, e, q⟩
  unfold fAll at e
  split at e
  · obtain ⟨bs, e', rfl⟩ := Option.map_eq_some_iff.mp e
    obtain ⟨v, rfl, h⟩ := vwl1 w
    obtain ⟨a, vs, rfl, q1, r1⟩ := vw_lst h
    have := blsD_vals e' r1
    subst this
    exact cr_all c.calm pins s σ H _ us Q I r ⟨a, bs, rfl, by rw [c.K]; exact q1, q _ _ (Grow.refl _) rfl⟩
  · cases e
theorem fold_min (n : Int) : ∀ ns : List Int, ns.foldl min n ∈ n :: ns ∧ ∀ y ∈ n :: ns, ns.foldl min n ≤ y := by
  intro ns
  induction ns generalizing n with
  | nil => simp
  | cons m ns ih =>
    obtain ⟨h1, h2⟩ := ih (min n m)
    rw [List.foldl_cons]
    refine ⟨?_, fun y hy => ?_⟩
    · rcases List.mem_cons.mp h1 with h | h
      · rw [h]
        rcases Int.le_total n m with z | z
        · rw [Int.min_eq_left z]; simp
        · rw [Int.min_eq_right z]; simp
      · simp [h]
    · have h0 := h2 (min n m) (List.mem_cons_self ..)
      rcases List.mem_cons.mp hy with rfl | hy
      · exact Int.le_trans h0 (Int.min_le_left _ _)
      · rcases List.mem_cons.mp hy with rfl | hy
        · exact Int.le_trans h0 (Int.min_le_right _ _)
        · exact h2 y (List.mem_cons_of_mem _ hy)
theorem fold_max (n : Int) : ∀ ns : List Int, ns.foldl max n ∈ n :: ns ∧ ∀ y ∈ n :: ns, y ≤ ns.foldl max n := by
  intro ns
  induction ns generalizing n with
  | nil => simp
  | cons m ns ih =>
    obtain ⟨h1, h2⟩ := ih (max n m)
    rw [List.foldl_cons]
    refine ⟨?_, fun y hy => ?_⟩
    · rcases List.mem_cons.mp h1 with h | h
      · rw [h]
        rcases Int.le_total n m with z | z
        · rw [Int.max_eq_right z]; simp
        · rw [Int.max_eq_left z]; simp
      · simp [h]
    · have h0 := h2 (max n m) (List.mem_cons_self ..)
      rcases List.mem_cons.mp hy with rfl | hy
      · exact Int.le_trans (Int.le_max_left _ _) h0
      · rcases List.mem_cons.mp hy with rfl | hy
        · exact Int.le_trans (Int.le_max_right _ _) h0
        · exact h2 y (List.mem_cons_of_mem _ hy)
theorem ok_min (c : XI X G W k) : CallR X (.builtin "min") (rB G fMin) := by
  intro pins s σ H xs us Q I r ⟨g, M, ds, rr, R, w, e, q⟩
  unfold fMin at e
  split at e
  · cases e
    obtain ⟨v, u, rfl, h1, h2⟩ := vwl2 w
    cases vw_int h1
    cases vw_int h2
    exact call_min2 c.calm pins s σ H _ us Q I r ⟨_, _, rfl, q _ _ (Grow.refl _) rfl⟩
  · split at e
    · rename_i n ns e'
      cases e
      obtain ⟨v, rfl, h⟩ := vwl1 w
      obtain ⟨a, vs, rfl, q1, r1⟩ := vw_lst h
      have := intsD_vals e' r1
      subst this
      obtain ⟨f1, f2⟩ := fold_min n ns
      refine cr_min c.calm pins s σ H _ us Q I r ⟨a, n :: ns, rfl, by rw [c.K]; exact q1, Nat.zero_lt_succ _, fun m hm hall => q _ _ (Grow.refl _) ?_⟩
      exact congrArg V.int (Int.le_antisymm (hall _ f1) (f2 m hm))
    · cases e
  · cases e
theorem ok_max (c : XI X G W k) : CallR X (.builtin "max") (rB G fMax) := by
  intro pins s σ H xs us Q I r ⟨g, M, ds, rr, R, w, e, q⟩
  unfold fMax at e
  split at e
  · cases e
    obtain ⟨v, u, rfl, h1, h2⟩ := vwl2 w
    cases vw_int h1
    cases vw_int h2
    exact call_max2 c.calm pins s σ H _ us Q I r ⟨_, _, rfl, q _ _ (Grow.refl _) rfl⟩
  · split at e
    · rename_i n ns e'
      cases e
      obtain ⟨v, rfl, h⟩ := vwl1 w
      obtain ⟨a, vs, rfl, q1, r1⟩ := vw_lst h
      have := intsD_vals e' r1
      subst this
      obtain ⟨f1, f2⟩ := fold_max n ns
      refine cr_max c.calm pins s σ H _ us Q I r ⟨a, n :: ns, rfl, by rw [c.K]; exact q1, Nat.zero_lt_succ _, fun m hm hall => q _ _ (Grow.refl _) ?_⟩
      exact congrArg V.int (Int.le_antisymm (f2 m hm) (hall _ f1))
    · cases e
  · cases e
theorem ok_list (c : XJ X G W) : CallR X (.type "list") (rB G fList) := by
  intro pins s σ H xs us Q I r ⟨g, M, ds, rr, R, w, e, q⟩
  have main : ∀ {a : Addr} {vs : List V} {es : List D}, xs = [.ref a] → (SqL X.K H a vs ∨ SqT X.K H a vs) → IsL G g H es vs → rr = .own (.lst es) → wpAny (model X.prog X.w) X.A (call (.type "list") us) (EP X pins σ Q) X.xe s := by
    intro a vs es ex hs il er
    subst er
    exact call_list_of pins s σ H _ us Q I r ⟨a, vs, ex, hs, fun l hl => q _ _ (Grow.upd hl) ⟨l, rfl, hl, vs, upd_same, R.gn (Grow.upd hl) il⟩⟩
  unfold fList at e
  split at e
  · cases e
    obtain ⟨v, rfl, h⟩ := vwl1 w
    obtain ⟨a, vs, rfl, q1, r1⟩ := vw_lst h
    exact main rfl (.inl (by rw [c.K]; exact q1)) r1 rfl
  · cases e
    obtain ⟨v, rfl, h⟩ := vwl1 w
    obtain ⟨a, vs, rfl, q1, r1⟩ := vw_tup h
    exact main rfl (.inr (by rw [c.K]; exact q1.t)) r1 rfl
  · cases e
    obtain ⟨v, rfl, h⟩ := vwl1 w
    obtain ⟨a, vs, rfl, q1, r1⟩ := vw_tupw h
    exact main rfl (.inr (.inl (.inl q1))) r1 rfl
  · cases e
theorem ok_tuple (c : XJ X G W) : CallR X (.type "tuple") (rB G fTuple) := by
  intro pins s σ H xs us Q I r ⟨g, M, ds, rr, R, w, e, q⟩
  unfold fTuple at e
  split at e
  · cases e
    obtain ⟨v, rfl, h⟩ := vwl1 w
    obtain ⟨a, vs, rfl, q1, r1⟩ := vw_lst h
    rw [← c.K] at q1
    rw [Vals.ref1 r]
    obtain ⟨its, r', pl, hz⟩ := I.list q1
    have hlen := r'.length
    refine call_tuple_list pl.isList (fun h' kp => ?_) (by simp only [List.size_toArray] <;> omega)
    have I1 : Inv X pins σ H { s with heap := h' } := I.kept (t' := s.toks) kp
    obtain ⟨H', I', w', f⟩ := Inv.newTup I1 r' hz
    refine ⟨.ref _, H', I', rfl, q _ H' w' ?_⟩
    show Is G g H' (.tup _) _
    simp only [Is]
    exact ⟨_, _, rfl, f _, R.gn w' r1⟩
  · cases e
    obtain ⟨v, rfl, h⟩ := vwl1 w
    obtain ⟨a, vs, rfl, q1, r1⟩ := vw_tup h
    have t1 := q1.t
    rw [← c.K] at t1
    rw [Vals.ref1 r]
    obtain ⟨its, r', pl, hz⟩ := I.tuple t1
    refine call_tuple_same pl ⟨.ref a, H, I, rfl, q _ H (Grow.refl _) ?_⟩
    show Is G g H (.tup _) _
    simp only [Is]
    exact ⟨_, _, rfl, q1, r1⟩
  · cases e
end
end PI
/-! PISndC: sorted, isinstance, repr are sound. -/
namespace PI
open PySem PySem.Spec PyProof.Rows L2
section
variable {X : Cx} {G : Ga} {W : WX} {k : Nat} {g : Gs} {H : Hp} {pins : List (Addr × Obj)} {σ : St} {s : Shared}
theorem reprIs {p : PyData} (h : p.shown.length ≤ 1000000) : p.shown.cps.toList.length ≤ sizeLine := by
  rw [sizeLine_eq]
  have : p.shown.cps.toList.length = p.shown.length := by simp [Str.length]
  omega
/-! isinstance -/
theorem tyD_is (hK : X.K = G.K) {d : D} {v : V} {t : String} (h : Vw G g H d v) (e : tyD d = some t) : TyX X.K H v (.type t) := by
  cases d with
  | non => cases e; cases vw_non h; exact .base .non
  | bl b => cases e; cases vw_bl h; exact .base (.bl _)
  | int b => cases e; cases vw_int h; exact .base (.int _)
  | str b => cases e; obtain ⟨rfl, _⟩ := vw_str h; exact .base (.str _)
  | tup ds =>
    cases e
    obtain ⟨a, vs, rfl, q, _⟩ := vw_tup h
    rcases q with ⟨o, q, _⟩ | ⟨o, its, n, e1, e2, _⟩
    · exact .fTuple q
    · exact .kTuple (by rw [hK]; exact e1) e2
  | tupw ds =>
    cases e
    obtain ⟨a, vs, rfl, q, _⟩ := vw_tupw h
    exact .base (.tup q)
  | lst ds =>
    cases e
    obtain ⟨a, vs, rfl, q, _⟩ := vw_lst h
    rcases q with (q | ⟨o, q⟩) | ⟨o, its, n, e1, e2, _⟩
    · exact .base (.lst q)
    · exact .base (.frz q)
    · exact .kList (by rw [hK]; exact e1) e2
  | dic kvs =>
    simp only [tyD] at e
    split at e
    · rename_i hf
      cases e
      obtain ⟨a, rfl, ks, q | ⟨o, q⟩, _⟩ := vw_dicK hf h
      · exact .base (.dK q)
      · exact .fDict q
    · cases e
  | _ => cases e
theorem isiTy_kit (K : PySem.W.Frag) {t T : String} {b : Bool} (ht : t ∈ ["NoneType", "bool", "int", "str", "tuple", "list", "dict"]) (e : isiTy t T = some b) : PySem.W.kitOne K (.type t) (.type T) = some b := by
  unfold isiTy at e
  split at e
  · rename_i hT
    subst hT
    cases e
    simp only [List.mem_cons, List.not_mem_nil, or_false] at ht
    rcases ht with rfl | rfl | rfl | rfl | rfl | rfl | rfl <;> kernel_rfl
  · split at e
    · rename_i hT
      simp only [Bool.or_eq_true, decide_eq_true_eq] at hT
      cases e
      simp only [List.mem_cons, List.not_mem_nil, or_false] at ht
      rcases hT with (((rfl | rfl) | rfl) | rfl) | rfl <;> rcases ht with rfl | rfl | rfl | rfl | rfl | rfl | rfl <;> kernel_rfl
    · cases e
theorem tyD_mem {d : D} {t : String} (e : tyD d = some t) : t ∈ ["NoneType", "bool", "int", "str", "tuple", "list", "dict"] := by
  cases d <;> simp only [tyD] at e <;> first
    | (cases e <;> simp; done)
    | (split at e <;> cases e <;> simp; done)
theorem vw_ty {n : String} {v : V} (h : Vw G g H (.ty n) v) : v = .ty n := by
  rcases h with h | ⟨a, o, rfl, q, e⟩
  · exact h
  · cases o <;> cases e
theorem ok_isi (c : XJ X G W) : CallR X (.builtin "isinstance") (rB G fIsi) := by
  intro pins s σ H xs us Q I r ⟨g, M, ds, rr, R, w, e, q⟩
  unfold fIsi at e
  split at e
  · rename_i x T
    cases h1 : tyD x with
    | none => rw [h1] at e; cases e
    | some t =>
      rw [h1] at e
      obtain ⟨b, e', rfl⟩ := Option.map_eq_some_iff.mp e
      obtain ⟨v, u, rfl, v1, v2⟩ := vwl2 w
      cases vw_ty v2
      exact call_isi pins s σ H _ us Q I r ⟨v, _, .type t, .type T, b, rfl, .ty T, tyD_is c.K v1 h1, isiTy_kit _ (tyD_mem h1) e', q _ _ (Grow.refl _) rfl⟩
  · cases e
/-- the name of a built-in type -/
theorem okTy {x : Str} {T : String} {pos : Pos} (hm : X.mg x = none) (hv : bootBuiltins x = some (.type T)) (hg : Gl X x := by rfl) (hn : x ≠ "__name__" := by decide) (hd : (x == ("__debug__" : Str)) = false := by decide) : PEI X G W (.Name x pos) (eCon (.ty T)) :=
  okCon (pe_bltn (v := .ty T) hg hm hv rfl hn hd) fun _ _ => by simp only [Is]
/-! sorted -/
end
end PI
/-! PISndD: methods, stores into objects are sound. -/
namespace PI
open PySem PySem.Spec PyProof.Rows L2
section
variable {X : Cx} {G : Ga} {W : WX} {k : Nat} {g : Gs} {H : Hp} {pins : List (Addr × Obj)} {σ : St} {s : Shared}
def Ty.nm : Ty → String
  | .list => "list"
  | .tuple => "tuple"
  | .dict => "dict"
  | .str => "str"
def tyI (G : Ga) (T : Ty) (x : V) (H : Hp) : Prop := ∃ g d, Vw G g H d x ∧ T.has d = true
theorem ty_ok (c : XJ X G W) (T : Ty) : TyOk X T.nm (tyI G T) := by
  intro pins σ H s x v I rx ⟨g, d, h, ht⟩
  cases T with
  | list => cases d with
    | lst ds =>
      obtain ⟨a, vs, rfl, q, _⟩ := vw_lst h
      cases rx
      rw [← c.K] at q
      obtain ⟨its, _, pl, _⟩ := I.list q
      refine ⟨pl.isList.typeIs, fun b e => ?_⟩
      cases e
      obtain ⟨o, n, e, cc, hd, _⟩ := pl
      exact ⟨o, e, hd⟩
    | _ => cases ht
  | tuple => cases d with
    | tup ds =>
      obtain ⟨a, vs, rfl, q, _⟩ := vw_tup h
      cases rx
      rcases q with ⟨o, q, hd⟩ | ⟨o, its, n, e1, e2, e3, _⟩
      · obtain ⟨ho, _, its, _, o', ho', hc, _⟩ := I.hok a _ q
        rw [ho] at ho'
        cases ho'
        refine ⟨⟨o, ho, hc⟩, fun b e => ?_⟩
        cases e
        exact ⟨o, ho, hd⟩
      · rw [← c.K] at e1
        refine ⟨⟨o, I.kIn a o e1, e2⟩, fun b e => ?_⟩
        cases e
        exact ⟨o, I.kIn _ o e1, e3⟩
    | _ => cases ht
  | dict => cases d with
    | dic kvs =>
      obtain ⟨a, rfl, hq⟩ := vw_dic h
      cases rx
      have : IsD H a := by
        rcases hq with ⟨ks, q, _⟩ | ⟨ks, q, _⟩
        · exact .inl ⟨ks, q⟩
        · exact .inr ⟨ks, q⟩
      obtain ⟨h1, h2, _⟩ := isD_at I this
      exact ⟨h1, h2⟩
    | _ => cases ht
  | str => cases d with
    | str cs =>
      obtain ⟨rfl, _⟩ := vw_str h
      obtain ⟨t, rfl⟩ := rx
      exact ⟨typeIs_str s _ t, fun _ e => nomatch e⟩
    | _ => cases ht
variable {o e : Expr} {es : List Expr} {name : Str} {apos cpos : Pos} {id : String} {T : Ty}
theorem has_of {T : Ty} {mo : EM PV} {α : Type} {f : EM α} {σ : St} {g : Gs} {H : Hp} {e : Env} {M : MH} {kk : α → Env → MH → Prop} {p : PV} {v : V} (R : Rel G g σ H e M) (hp : PVIs G g H σ v p)
    (h : PostR G W g H σ (EM.bind p.now (fun d0 => if T.has d0 then f else fun _ _ => .stuck) e M) kk) : tyI G T v H ∧ PostR G W g H σ (f e M) kk := by
  obtain ⟨d, h2, q⟩ := now_ok R hp (PostR.bind h)
  by_cases ht : T.has d = true
  · rw [if_pos ht] at h2
    exact ⟨⟨g, d, q, ht⟩, h2⟩
  · rw [if_neg ht] at h2
    exact False.elim h2
theorem okM (c : XJ X G W) {f : D → List D → Option SV} {mo : EM PV} {ms : EM (List PV)} (pa : PlainAttrs T.nm) (slot : Slot T.nm name id) (hty : typeOf (.builtin id) = pure (.type "method_descriptor")) (hm : MtR X id (rM G f)) (ho : PPI X G W o mo) (ha : PAPI X G W (e :: es) ms)
    (hbase : attributeBase o name X.env (eval o X.env) = eval o X.env := by rfl)
    (hfew : ((backTo cpos (starEach (e :: es) X.env)).all (fun x => !x.1) && (backToKw cpos (keywordEach [] X.env)).all (fun x => x.1.isSome)
      && decide ((e :: es).length + ([] : List Keyword).length + (if ([] : List Keyword).isEmpty then 0 else 1) < 30)) = true := by rfl)
    (hline : (apos.endLine == cpos.line) = true := by rfl) (hs : starEach (e :: es) X.env = (false, eval e X.env) :: starEach es X.env := by rfl) (hplain : (backTo cpos (starEach es X.env)).any (·.1) = false := by rfl) :
    PEI X G W (.Call (.Attribute o name apos) (e :: es) [] cpos) (eM T f mo ms) :=
  PE.imp (pe_mG (ty_ok c T) pa slot hty hm ho ha hbase hfew hline hs hplain) fun σ H Q ⟨g, e0, M, R, h⟩ => ⟨g, e0, M, R, (PostR.bind h).mono fun p e1 M1 _ k1 x H1 g1 N1 R1 p1 => by
    obtain ⟨t1, k2⟩ := has_of (mo := mo) R1 p1 (k1.from N1)
    refine ⟨t1, g1, e1, M1, R1, (PostR.bind k2).mono fun ps e2 M2 _ k3 vs H2 g2 N2 R2 pl => ?_⟩
    have k3 := k3.from N2
    obtain ⟨d, k4, w⟩ := now_ok R2 (p1.next N2) (PostR.bind k3)
    obtain ⟨ds, k5, wl⟩ := nowL_ok R2 pl (PostR.bind k4)
    obtain ⟨r, er, k6⟩ := lift_ok k5
    exact ⟨g2, M2, d, ds, r, R2.toHRel, w, wl, er, fun v H' ww n => k6 v H' g2 ((N1.trans N2).trans (R2.toHRel.grows ww)) (R2.grow ww) (n.sv R2 ww)⟩⟩
/-! objects changed -/
/-- a method that changes its object, by values -/
def rMut (G : Ga) (f : MO → List D → Option (D × MO)) : V → List V → Hp → VK → Prop := fun x vs H Q => ∃ g a o ds d o', x = .ref a ∧ OIs G g H a o ∧ IsL G g H ds vs ∧ f o ds = some (d, o') ∧
  ∀ v u, OIs G g (upd H a u) a o' → Is G g (upd H a u) d v → Q v (upd H a u)
theorem Rel.chgOwn {e : Env} {M : MH} {i : Nat} {o o' : MO} {a : Addr} {u : HO} (R : Rel G g σ H e M) (hi : e[i]? = some (some (.own o))) (hs : σ[i]? = some (some (.ref a))) (h : OIs G g (upd H a u) a o') :
    Next g H g (upd H a u) ∧ Rel G g σ (upd H a u) (setS e i (.own o')) M := by
  obtain ⟨b, e1, q, z, m⟩ := R.ow i o hi
  rw [hs] at e1
  cases e1
  have N := upd_next (u := u) z q.mut
  have il : i < e.length := (List.getElem?_eq_some_iff.mp hi).1
  have aux : ∀ {j : Nat} {w : SV}, (List.set e i (some (.own o')))[j]? = some (some w) → (j = i ∧ w = .own o') ∨ (j ≠ i ∧ e[j]? = some (some w)) := fun {j w} h1 => by
    by_cases hj : i = j
    · subst hj
      rw [List.getElem?_set_self il] at h1
      cases h1
      exact .inl ⟨rfl, rfl⟩
    · rw [List.getElem?_set_ne hj] at h1
      exact .inr ⟨fun z => hj z.symm, h1⟩
  refine ⟨N, R.toHRel.next N fun b hb => upd_ne fun e => m (e ▸ hb), by unfold setS; rw [List.length_set]; exact R.el, fun j d h1 => ?_, fun j w h1 => ?_, fun j j' b w w' h1 h2 h3 h4 => ?_⟩
  · rcases aux h1 with ⟨_, e⟩ | ⟨_, h1⟩
    · cases e
    · obtain ⟨v, e1, q⟩ := R.sl j d h1
      exact ⟨v, e1, q.next N⟩
  · rcases aux h1 with ⟨rfl, e⟩ | ⟨hj, h1⟩
    · cases e
      exact ⟨a, hs, h, z, m⟩
    · obtain ⟨b, e1, q, zb, mb⟩ := R.ow j w h1
      exact ⟨b, e1, q.next N (upd_ne fun eb => hj (R.di j i b w o h1 hi e1 (by rw [eb]; exact hs))), zb, mb⟩
  · rcases aux h1 with ⟨e1, _⟩ | ⟨_, g1⟩
    · rcases aux h2 with ⟨e2, _⟩ | ⟨_, g2⟩
      · rw [e1, e2]
      · rw [e1] at h3 ⊢
        exact R.di _ j' b o w' hi g2 h3 h4
    · rcases aux h2 with ⟨e2, _⟩ | ⟨_, g2⟩
      · rw [e2] at h4 ⊢
        exact R.di j _ b w o g1 hi h3 h4
      · exact R.di j j' b w w' g1 g2 h3 h4
theorem nodup_idx {l : List Addr} {a : Addr} : l.Nodup → ∀ {i j : Nat}, l[i]? = some a → l[j]? = some a → i = j := by
  induction l with
  | nil => intro _ i j h; simp at h
  | cons x l ih =>
    intro nd i j h1 h2
    obtain ⟨n1, n2⟩ := List.nodup_cons.mp nd
    cases i with
    | zero => cases j with
      | zero => rfl
      | succ j =>
        simp at h1 h2
        subst h1
        exact absurd (List.mem_of_getElem? h2) n1
    | succ i => cases j with
      | zero =>
        simp at h1 h2
        subst h2
        exact absurd (List.mem_of_getElem? h1) n1
      | succ j =>
        simp at h1 h2
        exact congrArg Nat.succ (ih n2 h1 h2)
theorem Rel.chgObj {e : Env} {M : MH} {n : Nat} {o o' : MO} {a : Addr} {u : HO} (R : Rel G g σ H e M) (hi : M[n]? = some o) (hs : g.μ[n]? = some a) (h : OIs G g (upd H a u) a o') :
    Next g H g (upd H a u) ∧ Rel G g σ (upd H a u) e (M.set n o') := by
  have q := R.ob n a o hs hi
  have mem : a ∈ g.μ := List.mem_of_getElem? hs
  have N := upd_next (u := u) (R.mZ a mem) q.mut
  have nl : n < M.length := (List.getElem?_eq_some_iff.mp hi).1
  refine ⟨N, ⟨fun b h => let ⟨u', e⟩ := R.ZH b h; ⟨u', (N.kZ b h).trans e⟩, by rw [List.length_set]; exact R.len, R.nd, R.mZ, fun m b w h1 h2 => ?_⟩, R.el, fun i d h => let ⟨v, e1, q⟩ := R.sl i d h; ⟨v, e1, q.next N⟩, fun i w h1 => ?_, R.di⟩
  · by_cases hm : n = m
    · subst hm
      rw [hs] at h1
      cases h1
      rw [List.getElem?_set_self nl] at h2
      cases h2
      exact h
    · rw [List.getElem?_set_ne hm] at h2
      refine (R.ob m b w h1 h2).next N (upd_ne fun eb => hm ?_)
      rw [eb] at h1
      exact nodup_idx R.nd hs h1
  · obtain ⟨b, e1, qb, zb, mb⟩ := R.ow i w h1
    exact ⟨b, e1, qb.next N (upd_ne fun eb => mb (by rw [eb]; exact mem)), zb, mb⟩
/-- the object at an operand -/
theorem chg_ok {e : Env} {M : MH} {p : PV} {x : V} {f : MO → Option (D × MO)} {kk : SV → Env → MH → Prop} (R : Rel G g σ H e M) (hp : PVIs G g H σ x p) (h : PostR G W g H σ (p.chg f e M) kk) :
    ∃ a o d o' e' M', x = .ref a ∧ OIs G g H a o ∧ f o = some (d, o') ∧ kk (.val d) e' M' ∧ ∀ u, OIs G g (upd H a u) a o' → Next g H g (upd H a u) ∧ Rel G g σ (upd H a u) e' M' := by
  cases p with
  | v d =>
    cases d with
    | obj n =>
      have hp : Is G g H (.obj n) x := hp
      simp only [Is] at hp
      obtain ⟨a, rfl, hn⟩ := hp
      simp only [PV.chg] at h
      cases q : M[n]? with
      | none => rw [q] at h; exact False.elim h
      | some o =>
        rw [q] at h
        dsimp only at h
        cases hf : f o with
        | none => rw [hf] at h; exact False.elim h
        | some do' =>
          obtain ⟨d, o'⟩ := do'
          rw [hf] at h
          exact ⟨a, o, d, o', e, M.set n o', rfl, R.ob n a o hn q, hf, h, fun u hu => Rel.chgObj R q hn hu⟩
    | _ => exact False.elim h
  | sl i =>
    simp only [PV.chg] at h
    cases q : e.getD i none with
    | none => rw [q] at h; exact False.elim h
    | some sv =>
      rw [q] at h
      cases sv with
      | val d => exact False.elim h
      | own o =>
        have hp : σ[i]? = some (some x) := hp
        obtain ⟨a, e1, r, _⟩ := R.ow i o (getD_some q)
        rw [hp] at e1
        cases e1
        dsimp only at h
        cases hf : f o with
        | none => rw [hf] at h; exact False.elim h
        | some do' =>
          obtain ⟨d, o'⟩ := do'
          rw [hf] at h
          exact ⟨a, o, d, o', _, M, rfl, r, hf, h, fun u hu => Rel.chgOwn R (getD_some q) hp hu⟩
theorem okMut (c : XJ X G W) {f : MO → List D → Option (D × MO)} {mo : EM PV} {ms : EM (List D)} (pa : PlainAttrs T.nm) (slot : Slot T.nm name id) (hty : typeOf (.builtin id) = pure (.type "method_descriptor")) (hm : MtR X id (rMut G f)) (ho : PPI X G W o mo) (ha : PAI X G W (e :: es) ms)
    (hbase : attributeBase o name X.env (eval o X.env) = eval o X.env := by rfl)
    (hfew : ((backTo cpos (starEach (e :: es) X.env)).all (fun x => !x.1) && (backToKw cpos (keywordEach [] X.env)).all (fun x => x.1.isSome)
      && decide ((e :: es).length + ([] : List Keyword).length + (if ([] : List Keyword).isEmpty then 0 else 1) < 30)) = true := by rfl)
    (hline : (apos.endLine == cpos.line) = true := by rfl) (hs : starEach (e :: es) X.env = (false, eval e X.env) :: starEach es X.env := by rfl) (hplain : (backTo cpos (starEach es X.env)).any (·.1) = false := by rfl) :
    PEI X G W (.Call (.Attribute o name apos) (e :: es) [] cpos) (eMut T f mo ms) :=
  PE.imp (pe_mG (ty_ok c T) pa slot hty hm ho ha hbase hfew hline hs hplain) fun σ H Q ⟨g, e0, M, R, h⟩ => ⟨g, e0, M, R, (PostR.bind h).mono fun p e1 M1 _ k1 x H1 g1 N1 R1 p1 => by
    obtain ⟨t1, k2⟩ := has_of (mo := mo) R1 p1 (k1.from N1)
    refine ⟨t1, g1, e1, M1, R1, (PostR.bind k2).mono fun ds e2 M2 _ k3 vs H2 g2 N2 R2 pl => ?_⟩
    have k3 := k3.from N2
    obtain ⟨a, ob, d, o', e3, M3, rfl, q1, q2, k4, q3⟩ := chg_ok R2 (p1.next N2) k3
    refine ⟨g2, a, ob, ds, d, o', rfl, q1, pl, q2, fun v u h1 h2 => ?_⟩
    obtain ⟨N3, R3⟩ := q3 u h1
    exact k4 v _ g2 ((N1.trans N2).trans N3) R3 h2⟩
end
end PI
/-! PISndE: the methods one by one; stores into lists, dicts; comprehensions assigned. -/
namespace PI
open PySem PySem.Spec PyProof.Rows L2
section
variable {X : Cx} {G : Ga} {W : WX} {k : Nat} {g : Gs} {H : Hp} {pins : List (Addr × Obj)} {σ : St} {s : Shared}
theorem vw_still {d : D} {v : V} (f : d.still = true) (h : Vw G g H d v) : Is G g H d v := by
  rcases h with h | ⟨a, o, rfl, q, rfl⟩
  · exact h
  · cases o <;> cases f
/-! index, count -/
theorem place_parts {ds : List D} {x : D} {j : Nat} (h : placeD ds x = some j) : ∃ p ps, dat x = some p ∧ datL ds = some ps ∧ p.plain = true ∧ PyData.plainAll ps = true ∧ min (PyData.depthAll ps) p.depth ≤ 60 ∧ SeqAt.dataPlace ps p = some j := by
  unfold placeD at h
  cases h1 : dat x with
  | none => rw [h1] at h; cases h
  | some p =>
    rw [h1] at h
    cases h2 : datL ds with
    | none => rw [h2] at h; cases h
    | some qs =>
      rw [h2] at h
      have h : (if inOk p qs = true then qs.findIdx? (fun q => PyData.eqv q p) else none) = some j := h
      split at h
      · rename_i ok
        simp only [inOk, Bool.and_eq_true, decide_eq_true_eq] at ok
        exact ⟨p, qs, rfl, rfl, ok.1.1, ok.1.2, ok.2, h⟩
      · cases h
theorem ok_index (c : XJ X G W) : MtR X "list.index" (rM G fIndexL) := by
  intro pins s σ H x xs v us Q I rx rs ⟨g, M, d, ds, r, R, vx, vl, e, q⟩
  have hu := c.room.units
  unfold fIndexL at e
  split at e
  · rename_i ds0 x0
    obtain ⟨j, e', rfl⟩ := Option.map_eq_some_iff.mp e
    obtain ⟨y, rfl, vy⟩ := vwl1 vl
    obtain ⟨u, rfl, ry⟩ := vals1 rs
    obtain ⟨a, vs, rfl, q1, r1⟩ := vw_lst vx
    cases rx
    obtain ⟨p, ps, e1, e2, k1, k2, k3, hp⟩ := place_parts e'
    obtain ⟨bs, rd, _⟩ := Vw.reads c.K I vy e1 ry
    rw [← c.K] at q1
    obtain ⟨its, rv, ⟨⟨cls, dd, data, sl⟩, n, ho, hc, _, hd⟩, hz⟩ := I.list q1
    simp only at hc hd
    subst hc hd
    obtain ⟨as, rr, _⟩ := Is.readsL c.K I r1 e2 rv
    obtain ⟨hj, hit, hno⟩ := SeqAt.hit_at (vs := its.toArray) (by simpa using rr) k2 hp
    have hsl := sizeLine_eq
    have hlen : its.toArray.size = vs.length := by rw [List.size_toArray]; exact rv.length.symm
    exact call_meets PySem.F.slot_list_index ⟨_, ho, rfl⟩ PySem.F.entry_list_index (PySem.F.args_list_index_2 _ _) (SeqAt.list_indexAt a its.toArray n dd sl u _ j hj (by omega) hit hno)
      ⟨ho, SeqAt.items_plain (by simpa using rr) rd k2 k1 (by omega), .int (j : Nat), H, I.tok _, ⟨_, rfl⟩, q _ _ (Grow.refl _) rfl⟩
  · cases e
theorem ok_indexT (c : XJ X G W) : MtR X "tuple.index" (rM G fIndexT) := by
  intro pins s σ H x xs v us Q I rx rs ⟨g, M, d, ds, r, R, vx, vl, e, q⟩
  have hu := c.room.units
  unfold fIndexT at e
  split at e
  · rename_i ds0 x0
    obtain ⟨j, e', rfl⟩ := Option.map_eq_some_iff.mp e
    obtain ⟨y, rfl, vy⟩ := vwl1 vl
    obtain ⟨u, rfl, ry⟩ := vals1 rs
    obtain ⟨a, vs, rfl, q1, r1⟩ := vw_tup vx
    cases rx
    obtain ⟨p, ps, e1, e2, k1, k2, k3, hp⟩ := place_parts e'
    obtain ⟨bs, rd, _⟩ := Vw.reads c.K I vy e1 ry
    have t1 := q1.t
    rw [← c.K] at t1
    obtain ⟨its, rv, ⟨⟨cls, dd, data, sl⟩, ho, hc, n, hd⟩, hz⟩ := I.tuple t1
    simp only at hc hd
    subst hc hd
    obtain ⟨as, rr, _⟩ := Is.readsL c.K I r1 e2 rv
    obtain ⟨hj, hit, hno⟩ := SeqAt.hit_at (vs := its.toArray) (by simpa using rr) k2 hp
    exact call_meets PySem.F.slot_tuple_index ⟨_, ho, rfl⟩ PySem.F.entry_tuple_index (PySem.F.args_tuple_index_2 _ _) (TI.tuple_indexAt a its.toArray n dd sl u _ j hj hit hno)
      ⟨ho, SeqAt.items_plain (by simpa using rr) rd k2 k1 (by omega), .int (j : Nat), H, I.tok _, ⟨_, rfl⟩, q _ _ (Grow.refl _) rfl⟩
  · cases e
theorem count_parts {ds : List D} {x : D} {r : SV} (h : countD ds x = some r) : ∃ p ps, dat x = some p ∧ datL ds = some ps ∧ p.plain = true ∧ PyData.plainAll ps = true ∧ min (PyData.depthAll ps) p.depth ≤ 60 ∧ r = .val (.int (ps.countP fun q => PyData.eqv q p : Nat)) := by
  unfold countD at h
  cases h1 : dat x with
  | none => rw [h1] at h; cases h
  | some p =>
    rw [h1] at h
    cases h2 : datL ds with
    | none => rw [h2] at h; cases h
    | some qs =>
      rw [h2] at h
      have h : (if inOk p qs = true then sv (.int (qs.countP fun q => PyData.eqv q p : Nat)) else none) = some r := h
      split at h
      · rename_i ok
        simp only [inOk, Bool.and_eq_true, decide_eq_true_eq] at ok
        cases h
        exact ⟨p, qs, rfl, rfl, ok.1.1, ok.1.2, ok.2, rfl⟩
      · cases h
theorem ok_count (c : XJ X G W) : MtR X "list.count" (rM G fCountL) := by
  intro pins s σ H x xs v us Q I rx rs ⟨g, M, d, ds, r, R, vx, vl, e, q⟩
  have hu := c.room.units
  unfold fCountL at e
  split at e
  · obtain ⟨p, ps, e1, e2, k1, k2, k3, rfl⟩ := count_parts e
    obtain ⟨y, rfl, vy⟩ := vwl1 vl
    obtain ⟨u, rfl, ry⟩ := vals1 rs
    obtain ⟨a, vs, rfl, q1, r1⟩ := vw_lst vx
    cases rx
    obtain ⟨bs, rd, _⟩ := Vw.reads c.K I vy e1 ry
    rw [← c.K] at q1
    obtain ⟨its, rv, pl, hz⟩ := I.list q1
    obtain ⟨as, rr, _⟩ := Is.readsL c.K I r1 e2 rv
    exact SeqAt.count_list_data pl.isList (by simpa using rr) rd k2 k1 (by omega) ⟨.int _, H, I.tok _, ⟨_, rfl⟩, q _ _ (Grow.refl _) rfl⟩
  · cases e
theorem ok_countT (c : XJ X G W) : MtR X "tuple.count" (rM G fCountT) := by
  intro pins s σ H x xs v us Q I rx rs ⟨g, M, d, ds, r, R, vx, vl, e, q⟩
  have hu := c.room.units
  unfold fCountT at e
  split at e
  · obtain ⟨p, ps, e1, e2, k1, k2, k3, rfl⟩ := count_parts e
    obtain ⟨y, rfl, vy⟩ := vwl1 vl
    obtain ⟨u, rfl, ry⟩ := vals1 rs
    obtain ⟨a, vs, rfl, q1, r1⟩ := vw_tup vx
    cases rx
    obtain ⟨bs, rd, _⟩ := Vw.reads c.K I vy e1 ry
    have t1 := q1.t
    rw [← c.K] at t1
    obtain ⟨its, rv, pl, hz⟩ := I.tuple t1
    obtain ⟨as, rr, _⟩ := Is.readsL c.K I r1 e2 rv
    exact SeqAt.count_tuple_data pl (by simpa using rr) rd k2 k1 (by omega) ⟨.int _, H, I.tok _, ⟨_, rfl⟩, q _ _ (Grow.refl _) rfl⟩
  · cases e
/-! append .. -/
theorem ois_upd {a : Addr} {ds : List D} {vs : List V} (hm : Mut (H a)) (hz : True) {ws : List V} (r : IsL G g H ds ws) (e : ws = vs) : IsL G g (upd H a (.lst vs)) ds vs := by
  subst e
  exact r.nextI ⟨⟨[], by simp⟩, fun b o h n => by
    rw [upd_ne fun z => n (by rw [← z, h] at hm; exact hm)]
    exact h⟩
theorem is_upd {a : Addr} {d : D} {v : V} {u : HO} (hm : Mut (H a)) (r : Is G g H d v) : Is G g (upd H a u) d v :=
  r.nextI ⟨⟨[], by simp⟩, fun b o h n => by
    rw [upd_ne fun z => n (by rw [← z, h] at hm; exact hm)]
    exact h⟩
theorem isL1 {d : D} {vs : List V} (h : IsL G g H [d] vs) : ∃ v, vs = [v] ∧ Is G g H d v := by
  match vs, h with
  | [v], h => simp only [IsL] at h; exact ⟨v, rfl, h.1⟩
  | [], h => simp only [IsL] at h
  | _ :: _ :: _, h => simp only [IsL] at h; exact h.2.elim
theorem isL2 {d d' : D} {vs : List V} (h : IsL G g H [d, d'] vs) : ∃ v w, vs = [v, w] ∧ Is G g H d v ∧ Is G g H d' w := by
  match vs, h with
  | [v, w], h => simp only [IsL] at h; exact ⟨v, w, rfl, h.1, h.2.1⟩
  | [], h => simp only [IsL] at h
  | [_], h => simp only [IsL] at h; exact h.2.elim
  | _ :: _ :: _ :: _, h => simp only [IsL] at h; exact h.2.2.elim
theorem lst_mut {a : Addr} {vs : List V} (h : H a = some (.lst vs)) : Mut (H a) := by rw [h]; trivial
theorem ok_append : MtR X "list.append" (rMut G mAppend) := by
  intro pins s σ H x xs v us Q I rx rs hh
  obtain ⟨g, a, o, ds, d, o', rfl, q1, r1, e, q⟩ := hh
  unfold mAppend at e
  split at e
  · split at e
    · rename_i hl
      cases e
      obtain ⟨vs, h, r⟩ := q1
      obtain ⟨y, rfl, iy⟩ := isL1 r1
      have hl := line_of hl
      have hm := lst_mut h
      refine mt_append pins s σ H _ _ v us Q I rx rs ⟨a, vs, y, rfl, rfl, h, by rw [← r.length]; omega, q _ _ ⟨_, upd_same, ?_⟩ rfl⟩
      exact ois_upd hm trivial (IsL.append r (by simp only [IsL]; exact ⟨iy, trivial⟩)) rfl
    · cases e
  · cases e
theorem isL_dropLast : ∀ {ds : List D} {vs : List V}, IsL G g H ds vs → IsL G g H ds.dropLast vs.dropLast := by
  intro ds vs h
  rw [List.dropLast_eq_take, List.dropLast_eq_take, h.length]
  exact IsL.take _ h
theorem isL_erase : ∀ {ds : List D} {vs : List V} (i : Nat), IsL G g H ds vs → IsL G g H (ds.eraseIdx i) (vs.eraseIdx i) := by
  intro ds vs i h
  rw [List.eraseIdx_eq_take_drop_succ, List.eraseIdx_eq_take_drop_succ]
  exact IsL.append (IsL.take _ h) (IsL.drop _ h)
theorem isL_set : ∀ {ds : List D} {vs : List V} (i : Nat) {d : D} {v : V}, IsL G g H ds vs → Is G g H d v → IsL G g H (ds.set i d) (vs.set i v)
  | [], [], _, _, _, h, _ => by simpa using h
  | _ :: _, _ :: _, 0, _, _, h, k => by
    simp only [IsL, List.set_cons_zero] at h ⊢
    exact ⟨k, h.2⟩
  | _ :: _, _ :: _, i + 1, _, _, h, k => by
    simp only [IsL, List.set_cons_succ] at h ⊢
    exact ⟨h.1, isL_set i h.2 k⟩
  | [], _ :: _, _, _, _, h, _ => by simp only [IsL] at h
  | _ :: _, [], _, _, _, h, _ => by simp only [IsL] at h
theorem ok_pop : MtR X "list.pop" (rMut G mPop) := by
  intro pins s σ H x xs v us Q I rx rs hh
  obtain ⟨g, a, o, ds, d, o', rfl, q1, r1, e, q⟩ := hh
  unfold mPop at e
  split at e
  · split at e
    · rename_i ds0 d0 hd
      cases e
      obtain ⟨vs, h, r⟩ := q1
      have hm := lst_mut h
      obtain ⟨y, hy, iy⟩ := r.get hd
      have hx : xs = [] := by
        cases xs with
        | nil => rfl
        | cons _ _ => simp only [IsL] at r1
      subst hx
      refine mt_pop pins s σ H _ _ v us Q I rx rs ⟨a, vs, y, rfl, rfl, h, by rw [← r.length]; exact hy, q _ _ ⟨_, upd_same, ois_upd hm trivial (isL_dropLast r) rfl⟩ (is_upd hm iy)⟩
    · cases e
  · split at e
    · rename_i ds0 i j hj
      split at e
      · rename_i d0 hd
        cases e
        obtain ⟨vs, h, r⟩ := q1
        have hm := lst_mut h
        obtain ⟨y, hy, iy⟩ := r.get hd
        obtain ⟨w, rfl, iw⟩ := isL1 r1
        cases iw
        rw [ixD_eq] at hj
        obtain ⟨j1, j2, j3, j4⟩ := ixN_seq hj
        have hz := (I.lstM h).1
        have hn := line63
        have := r.length
        refine mt_popAt pins s σ H _ _ v us Q I rx rs ⟨a, vs, _, j, y, rfl, rfl, h, by omega, by omega, by rw [← r.length]; exact j1, hy, q _ _ ⟨_, upd_same, ois_upd hm trivial (isL_erase j r) rfl⟩ (is_upd hm iy)⟩
      · cases e
    · cases e
  · cases e
end
end PI
/-! PISndF: stores into lists, dicts; displays of dicts; comprehensions assigned; shared objects. -/
namespace PI
open PySem PySem.Spec PyProof.Rows L2
section
variable {X : Cx} {G : Ga} {W : WX} {k : Nat} {g : Gs} {H : Hp} {pins : List (Addr × Obj)} {σ : St} {s : Shared}
theorem isK_append : ∀ {a b : List (D × D)} {x y : List (Key × V)}, IsK G g H a x → IsK G g H b y → IsK G g H (a ++ b) (x ++ y)
  | [], _, [], _, _, h => h
  | (k, d) :: r, _, (q, v) :: s, _, h, h2 => by
    simp only [List.cons_append, IsK] at h ⊢
    exact ⟨h.1, h.2.1, isK_append h.2.2 h2⟩
  | [], _, _ :: _, _, h, _ => by simp only [IsK] at h
  | (_, _) :: _, _, [], _, h, _ => by simp only [IsK] at h
theorem isT_append : ∀ {a b : List (D × D)} {x y : List (List Key × V)}, IsT G g H a x → IsT G g H b y → IsT G g H (a ++ b) (x ++ y)
  | [], _, [], _, _, h => h
  | (k, d) :: r, _, (q, v) :: s, _, h, h2 => by
    cases k with
    | tup l =>
      simp only [List.cons_append, IsT] at h ⊢
      exact ⟨h.1, h.2.1, isT_append h.2.2 h2⟩
    | _ => simp only [IsT] at h
  | [], _, _ :: _, _, h, _ => by simp only [IsT] at h
  | (k, _) :: _, _, [], _, h, _ => by cases k <;> simp only [IsT] at h
theorem anyK {kd : D} (fk : kd.flatKey = true) : ∀ {kvs : List (D × D)} {ks : List (Key × V)}, IsK G g H kvs ks → (kvs.all (·.1.flatKey)) = true → (kvs.any fun p => keyEq p.1 kd) = ks.any fun kv => decide (kv.1 = keyD kd)
  | [], [], _, _ => rfl
  | (k', d) :: r, (q, v) :: s, h, f => by
    simp only [IsK] at h
    rw [List.all_cons, Bool.and_eq_true] at f
    have eq := keyD_of f.1 h.1
    subst eq
    rw [List.any_cons, List.any_cons, anyK fk h.2.2 f.2]
    dsimp only
    rw [keyEq_iff f.1 fk]
  | [], _ :: _, h, _ => by simp only [IsK] at h
  | (_, _) :: _, [], h, _ => by simp only [IsK] at h
theorem mapK {kd dv : D} {v : V} (fk : kd.flatKey = true) (iv : Is G g H dv v) : ∀ {kvs : List (D × D)} {ks : List (Key × V)}, IsK G g H kvs ks → (kvs.all (·.1.flatKey)) = true →
    IsK G g H (kvs.map fun p => if keyEq p.1 kd then (p.1, dv) else p) (ks.map fun kv => if kv.1 = keyD kd then (kv.1, v) else kv)
  | [], [], _, _ => by simp only [List.map_nil, IsK]
  | (k', d) :: r, (q, w) :: s, h, f => by
    simp only [IsK] at h
    rw [List.all_cons, Bool.and_eq_true] at f
    have eq := keyD_of f.1 h.1
    subst eq
    rw [List.map_cons, List.map_cons]
    dsimp only
    rw [keyEq_iff f.1 fk]
    by_cases e : keyD k' = keyD kd
    · rw [if_pos (decide_eq_true e), if_pos e]
      simp only [IsK]
      exact ⟨h.1, iv, mapK fk iv h.2.2 f.2⟩
    · rw [if_neg (by simpa using e), if_neg e]
      simp only [IsK]
      exact ⟨h.1, h.2.1, mapK fk iv h.2.2 f.2⟩
  | [], _ :: _, h, _ => by simp only [IsK] at h
  | (_, _) :: _, [], h, _ => by simp only [IsK] at h
theorem keep_flat {kd : D} (fk : kd.flatKey = true) : kd.keep = kd := by cases kd <;> first | rfl | cases fk
theorem putK_is {kd dv : D} {v y : V} (fk : kd.flatKey = true) (ik : Is G g H kd y) (iv : Is G g H dv v) {kvs : List (D × D)} {ks : List (Key × V)} (h : IsK G g H kvs ks) (f : (kvs.all (·.1.flatKey)) = true) : IsK G g H (dPutN kvs kd dv) (putK ks (keyD kd) v) := by
  unfold dPutN putK
  rw [anyK fk h f]
  split
  · exact mapK fk iv h f
  · rw [keep_flat fk]
    refine isK_append h ?_
    simp only [IsK]
    rw [kV_keyD fk ik] at ik
    exact ⟨ik, iv, trivial⟩
theorem anyT {l : List D} (fl : (l.all D.flatKey) = true) : ∀ {kvs : List (D × D)} {ks : List (List Key × V)}, IsT G g H kvs ks → (kvs.any fun p => keyEq p.1 (.tupw l)) = ks.any fun kv => decide (kv.1 = l.map keyD)
  | [], [], _ => rfl
  | (k', d) :: r, (q, v) :: s, h => by
    cases k' with
    | tup a =>
      simp only [IsT] at h
      obtain ⟨f1, f2⟩ := isL_flat h.1
      rw [List.any_cons, List.any_cons, anyT fl h.2.2]
      simp only [keyEq]
      rw [keyEqL_iff f1 fl, f2]
    | _ => simp only [IsT] at h
  | [], _ :: _, h => by simp only [IsT] at h
  | (k, _) :: _, [], h => by cases k <;> simp only [IsT] at h
theorem mapT {l : List D} {dv : D} {v : V} (fl : (l.all D.flatKey) = true) (iv : Is G g H dv v) : ∀ {kvs : List (D × D)} {ks : List (List Key × V)}, IsT G g H kvs ks →
    IsT G g H (kvs.map fun p => if keyEq p.1 (.tupw l) then (p.1, dv) else p) (ks.map fun kv => if kv.1 = l.map keyD then (kv.1, v) else kv)
  | [], [], _ => by simp only [List.map_nil, IsT]
  | (k', d) :: r, (q, w) :: s, h => by
    cases k' with
    | tup a =>
      simp only [IsT] at h
      obtain ⟨f1, f2⟩ := isL_flat h.1
      have hk : keyEq (.tup a) (.tupw l) = decide (q = l.map keyD) := by
        simp only [keyEq]
        rw [keyEqL_iff f1 fl, f2]
      rw [List.map_cons, List.map_cons]
      dsimp only
      rw [hk]
      by_cases e : q = l.map keyD
      · rw [if_pos (decide_eq_true e), if_pos e]
        simp only [IsT]
        exact ⟨h.1, iv, mapT fl iv h.2.2⟩
      · rw [if_neg (by simpa using e), if_neg e]
        simp only [IsT]
        exact ⟨h.1, h.2.1, mapT fl iv h.2.2⟩
    | _ => simp only [IsT] at h
  | [], _ :: _, h => by simp only [IsT] at h
  | (k, _) :: _, [], h => by cases k <;> simp only [IsT] at h
theorem putT_is {l : List D} {dv : D} {v : V} (fl : (l.all D.flatKey) = true) {q : List Key} (eq : q = l.map keyD) (il : IsL G g H l (q.map kV)) (iv : Is G g H dv v) {kvs : List (D × D)} {ks : List (List Key × V)} (h : IsT G g H kvs ks) : IsT G g H (dPutN kvs (.tupw l) dv) (putK ks q v) ∧ dPutN kvs (.tupw l) dv ≠ [] := by
  subst eq
  unfold dPutN putK
  rw [anyT fl h]
  split
  · rename_i ha
    refine ⟨mapT fl iv h, fun z => ?_⟩
    have := List.map_eq_nil_iff.mp z
    subst this
    cases ks with
    | nil => simp at ha
    | cons _ _ => simp only [IsT] at h
  · refine ⟨isT_append h ?_, by simp⟩
    show IsT G g H [(.tup l, dv)] _
    simp only [IsT]
    exact ⟨il, iv, trivial⟩
theorem isK_next {a : Addr} {u : HO} (hm : Mut (H a)) {kvs : List (D × D)} {ks : List (Key × V)} (h : IsK G g H kvs ks) : IsK G g (upd H a u) kvs ks := h.nextI ⟨⟨[], by simp⟩, fun b o h n => by
    rw [upd_ne fun z => n (by rw [← z, h] at hm; exact hm)]
    exact h⟩
theorem isT_next {a : Addr} {u : HO} (hm : Mut (H a)) {kvs : List (D × D)} {ks : List (List Key × V)} (h : IsT G g H kvs ks) : IsT G g (upd H a u) kvs ks := h.nextI ⟨⟨[], by simp⟩, fun b o h n => by
    rw [upd_ne fun z => n (by rw [← z, h] at hm; exact hm)]
    exact h⟩
/-- an empty dict is one of tuple keys, too -/
theorem Inv.toT {a : Addr} (I : Inv X pins σ H s) (h : H a = some (.dK [])) : Inv X pins σ (upd H a (.dT [])) s := by
  obtain ⟨hd, o, es, ep, ho, hx, hdat, he, _, nd⟩ := emptyT I (.inl h)
  have := I.write (x := a) (e := a) (o := .dT []) (h' := s.heap) (t' := s.toks) (by rw [h]; trivial) (.inl rfl) (fun b u _ e => e) ⟨o, ho⟩ ⟨Nat.zero_le _, hd, [], .nil, o, es, ep, ho, hx, hdat, he, List.nodup_nil⟩
  exact this
theorem upd_upd' {H : Hp} {a : Addr} {u w : HO} : L2.upd (L2.upd H a u) a w = L2.upd H a w := by
  funext b
  unfold L2.upd
  by_cases e : b = a <;> simp [e]
theorem isT_len : ∀ {kvs : List (D × D)} {ks : List (List Key × V)}, IsT G g H kvs ks → kvs.length = ks.length
  | [], [], _ => rfl
  | (k, d) :: r, (q, v) :: s, h => by
    cases k with
    | tup l =>
      simp only [IsT] at h
      exact congrArg Nat.succ (isT_len h.2.2)
    | _ => simp only [IsT] at h
  | [], _ :: _, h => by simp only [IsT] at h
  | (k, _) :: _, [], h => by cases k <;> simp only [IsT] at h
/-- o[k] = v on objects -/
def rPut (G : Ga) (f : MO → D → D → Option MO) (x y z : V) (H : Hp) (Q : Hp → Prop) : Prop := ∃ g a o kd dv o', x = .ref a ∧ OIs G g H a o ∧ Is G g H kd y ∧ Is G g H dv z ∧ f o kd dv = some o' ∧ ∀ u, OIs G g (upd H a u) a o' → Q (upd H a u)
theorem put_ok (c : XJ X G W) : PSet X (rPut G pLst) := by
  intro pins s σ H x y z ov iv u Q I rx ry rz hh
  obtain ⟨g, a, o, kd, dv, o', rfl, q1, iy, iz, e, q⟩ := hh
  have hu := c.room.units
  cases o with
  | ins _ _ => cases kd <;> cases e
  | lst ds =>
    have hkd : ∃ i, kd = .int i := by cases kd <;> first | exact ⟨_, rfl⟩ | cases e
    obtain ⟨i, rfl⟩ := hkd
    obtain ⟨j, hj, rfl⟩ := Option.map_eq_some_iff.mp e
    cases iy
    obtain ⟨vs, h, r⟩ := q1
    have hm := lst_mut h
    rw [ixD_eq, r.length] at hj
    exact set_list pins s σ H _ _ z ov iv u Q I rx ry rz ⟨a, vs, _, j, rfl, rfl, h, hj, q _ ⟨_, upd_same, ois_upd hm trivial (isL_set j r iz) rfl⟩⟩
  | dic kvs =>
    have e : (if (dOk kvs kd && okLen (kvs.length + 1)) = true then some (MO.dic (dPutN kvs kd dv)) else none) = some o' := by cases kd <;> exact e
    split at e
    · rename_i hf
      rw [Bool.and_eq_true] at hf
      cases e
      have hl := of_decide_eq_true hf.2
      have hsz : sizeLine = 16777216 := sizeLine_eq
      cases rx
      have fin : ∀ {H2 H' : Hp}, Inv X pins σ H2 s → DPut H2 a y z H' → Q H' → wpAny (model X.prog X.w) X.A (setItem (.ref a) iv u) (fun _ s' => ∃ H', Inv X pins σ H' s' ∧ Q H') X.xe s :=
        fun I2 dp q => d_setItem (by omega) I2 dp ry rz fun s' I' => ⟨_, I', q⟩
      have hk := hf.1
      unfold dOk at hk
      by_cases hf1 : (kd.flatKey && kvs.all (·.1.flatKey)) = true
      · rw [Bool.and_eq_true] at hf1
        have ey := kV_keyD hf1.1 iy
        subst ey
        rcases q1 with ⟨ks, h, r⟩ | ⟨ks, h, ne, r⟩
        · have hm : Mut (H a) := by rw [h]; trivial
          exact fin I (DPut.k h (by rw [← isK_len r]; omega)) (q _ (.inl ⟨_, upd_same, isK_next hm (putK_is hf1.1 iy iz r hf1.2)⟩))
        · exact absurd (isT_keys r hf1.2).1 ne
      · rw [Bool.or_eq_true] at hk
        have hk := hk.resolve_left hf1
        rw [Bool.and_eq_true] at hk
        cases kd with
        | tupw l =>
          have fl : (l.all D.flatKey) = true := hk.1
          simp only [Is] at iy
          obtain ⟨b, vs, rfl, hb, il⟩ := iy
          have ev := flat_vals fl il
          subst ev
          rcases q1 with ⟨ks, h, r⟩ | ⟨ks, h, ne, r⟩
          · obtain ⟨e1, e2⟩ := isK_tups r hk.2
            subst e1 e2
            have hm : Mut (H a) := by rw [h]; trivial
            have I2 := Inv.toT I h
            have eb : b ≠ a := fun z => by rw [z, h] at hb; cases hb
            have ht := putT_is (kvs := []) (ks := []) fl rfl il iz (by simp only [IsT])
            have := q (.dT (putK [] (l.map keyD) z)) (.inr ⟨_, upd_same, ht.2, isT_next hm ht.1⟩)
            rw [← upd_upd' (H := H) (a := a) (u := .dT [])] at this
            exact fin I2 (DPut.t upd_same (by rw [upd_ne eb]; exact hb) (by simp; omega)) this
          · have hm : Mut (H a) := by rw [h]; trivial
            have ht := putT_is fl rfl il iz r
            exact fin I (DPut.t h hb (by rw [← isT_len r]; omega)) (q _ (.inr ⟨_, upd_same, ht.2, isT_next hm ht.1⟩))
        | _ => cases hk.1
    · cases e
theorem ps_put {o i value : Expr} {pos pos' : Pos} {tv td ty : TE} {t : V → V → V → Hp → (Hp → Prop) → Prop} (hp : PSet X t) (hv : PE X value tv) (ho : PE X o td) (hi : PE X i ty) (hs : swapsWith value (some (.Subscript o i pos')) pos.line X.env = pure false) :
    PS X (.Assign [.Subscript o i pos'] value pos) (fun D σ H => tv σ H fun z H1 => td σ H1 fun x H2 => ty σ H2 fun y H3 => t x y z H3 (D.nx σ)) := by
  refine ⟨fun pins s σ H D I h => ?_⟩
  refine wpAny_Assign_Subscript (thn (hv.run pins s σ H _ I h) fun r s1 ⟨z, H1, I1, rv, q1⟩ => thn (ho.run pins s1 σ H1 _ I1 q1) fun u s2 ⟨x, H2, I2, rx, q2⟩ => thn (hi.run pins s2 σ H2 _ I2 q2) fun iv s3 ⟨y, H3, I3, ry, q3⟩ => ?_) hs
  exact thn (hp pins s3 σ H3 x y z u iv r _ I3 rx ry rv q3) fun _ s4 ⟨H4, I4, q4⟩ => ⟨σ, H4, I4, q4⟩
theorem okPut (c : XJ X G W) {o i value : Expr} {pos pos' : Pos} {mv mi : EM D} {mo : EM PV} (hv : PUI X G W value mv) (ho : PPI X G W o mo) (hi : PUI X G W i mi) (hs : swapsWith value (some (.Subscript o i pos')) pos.line X.env = pure false := by rfl) :
    PSI X G W (.Assign [.Subscript o i pos'] value pos) (sPut pLst mv mo mi) :=
  PS.imp (ps_put (put_ok c) hv ho hi hs) fun D σ H ⟨g, e, M, R, h⟩ => ⟨g, e, M, R, (PostS.bind h).mono fun d e1 M1 _ k1 z H1 g1 N1 R1 iz => ⟨g1, e1, M1, R1, (PostS.bind (k1.from N1)).mono fun p e2 M2 _ k2 x H2 g2 N2 R2 ip => ⟨g2, e2, M2, R2, (PostS.bind (k2.from N2)).mono fun kd e3 M3 _ k3 y H3 g3 N3 R3 iy => by
    have k4 := PostS.bind (σ := σ) (k3.from N3)
    obtain ⟨a, ob, dd, o', e4, M4, rfl, q1, q2, k5, q3⟩ := chg_ok R3 (ip.next N3) k4
    obtain ⟨o2, q4, q5⟩ := Option.map_eq_some_iff.mp q2
    cases q5
    refine ⟨g3, a, ob, kd, d, o', rfl, q1, iy, (iz.next N2).next N3, q4, fun u hu => ?_⟩
    obtain ⟨N4, R4⟩ := q3 u hu
    exact k5 σ _ g3 N4 R4⟩⟩⟩
/-! new dicts; shared objects; one operand -/
theorem okDic0 {pos : Pos} : PEI X G W (.Dict [] [] pos) eDic0 := PE.imp pe_dnewK fun σ H Q ⟨g, e, M, R, h⟩ p hp => by
  have w : Grow H (upd H p (.dK [])) := Grow.upd hp
  exact h (.ref p) _ g (R.toHRel.grows w) (R.grow w) (NewSV.sv (r := .own (.dic [])) R w ⟨p, rfl, hp, .inl ⟨[], upd_same, by simp only [IsK]⟩⟩)
theorem okShare {e : Expr} {m : EM SV} (he : PEI X G W e m) : PEI X G W e (eShare m) :=
  PE.imp he fun σ H Q ⟨g, e, M, R, h⟩ => ⟨g, e, M, R, (PostR.bind h).mono fun s e1 M1 _ k1 v H1 g1 N1 R1 r => by
    cases s with
    | val d => exact k1 v H1 g1 N1 R1 r
    | own o =>
      obtain ⟨a, rfl, q, z, m, ns⟩ := r
      have NI : NextI g1 H1 ⟨g1.Z, g1.μ ++ [a]⟩ H1 := ⟨⟨[a], rfl⟩, fun _ _ h _ => h⟩
      have N : Next g1 H1 ⟨g1.Z, g1.μ ++ [a]⟩ H1 := ⟨rfl, ⟨[a], rfl⟩, fun _ _ => rfl, fun _ _ h _ => h⟩
      have HR : HRel G ⟨g1.Z, g1.μ ++ [a]⟩ H1 (M1 ++ [o]) := by
        refine ⟨R1.ZH, by simp [R1.len], ?_, fun b hb => ?_, fun n b u h1 h2 => ?_⟩
        · refine List.nodup_append.mpr ⟨R1.nd, by simp, fun x hx y hy => ?_⟩
          simp at hy
          subst hy
          exact fun z => m (z ▸ hx)
        · rcases List.mem_append.mp hb with hb | hb
          · exact R1.mZ b hb
          · simp at hb
            subst hb
            exact z
        · by_cases hn : n < g1.μ.length
          · rw [List.getElem?_append_left hn] at h1
            rw [List.getElem?_append_left (by rw [← R1.len]; exact hn)] at h2
            exact (R1.ob n b u h1 h2).nextI NI rfl
          · have hn' : g1.μ.length ≤ n := by omega
            rw [List.getElem?_append_right hn'] at h1
            rw [List.getElem?_append_right (by rw [← R1.len]; exact hn'), ← R1.len] at h2
            have hz : n - g1.μ.length = 0 := by
              have := (List.getElem?_eq_some_iff.mp h1).1
              simp at this
              omega
            rw [hz] at h1 h2
            cases h1
            cases h2
            exact q.nextI NI rfl
      refine k1 (.ref a) H1 _ (N1.trans N) ⟨HR, R1.el, fun i d h => let ⟨v, e2, q2⟩ := R1.sl i d h; ⟨v, e2, q2.nextI NI⟩, fun i u h => ?_, R1.di⟩ ?_
      · obtain ⟨b, e2, q2, zb, mb⟩ := R1.ow i u h
        refine ⟨b, e2, q2.nextI NI rfl, zb, fun hb => ?_⟩
        rcases List.mem_append.mp hb with hb | hb
        · exact mb hb
        · simp at hb
          subst hb
          exact ns i u h e2
      · show Is G _ H1 (.obj M1.length) (.ref a)
        simp only [Is]
        exact ⟨a, rfl, by rw [← R1.len]; simp⟩⟩
theorem ok1 {op : UnaryOp} {f : D → Option SV} {a : Expr} {ma : EM PV} {pos : Pos} (ho : UnR X (unaryOp op) (rOp1 G f)) (ha : PPI X G W a ma) : PEI X G W (.UnaryOp op a pos) (e1 f ma) :=
  PE.imp (pe_un ho ha) fun σ H Q ⟨g, e, M, R, h⟩ => ⟨g, e, M, R, (PostR.bind h).mono fun p e1 M1 _ k1 x H1 g1 N1 R1 ip => by
    obtain ⟨d, k2, q⟩ := now_ok R1 ip (PostR.bind (k1.from N1))
    obtain ⟨r, er, k3⟩ := lift_ok k2
    exact ⟨g1, M1, d, r, R1.toHRel, q, er, fun v H' w n => k3 v H' g1 (N1.trans (R1.toHRel.grows w)) (R1.grow w) (n.sv R1 w)⟩⟩
/-! comprehensions assigned -/
theorem okLcSet (c : XI X G W k) {elt tg iter : Expr} {ifs : List Expr} {scope : Scope} {own : List (Str × Nat)} {t : PI.TG} {it : EM (List D)} {cnd : EM Bool} {x : EM D} {is : List Nat} {i : Nat} {y : Str} {py pos spos : Pos} (hi : PII X G W tg iter it) (ok : BlkOk X.N X.env.scope scope own)
    (hg : ∀ (s : Shared) (H : Hp) (C : Addr) (cl : List (Str × Addr)) (fp : List Addr), PGI (X.blk s H scope (compEnvC scope cl C X.env) fp) G tg t is) (his : ∀ i ∈ is, i ∈ own.map (·.2))
    (ht : ∀ (s : Shared) (H : Hp) (C : Addr) (cl : List (Str × Addr)) (fp : List Addr), PTs (X.blk s H scope (compEnvC scope cl C X.env) fp) ifs (tT G W0 cnd))
    (he : ∀ (s : Shared) (H : Hp) (C : Addr) (cl : List (Str × Addr)) (fp : List Addr), PUI (X.blk s H scope (compEnvC scope cl C X.env) fp) G W0 elt x)
    (hy : X.N[i]? = some y := by rfl) (hyl : X.env.scope.names.lookup y = some .local := by rfl) (hsw : swapsWith (.ListComp elt [⟨tg, iter, ifs, 0⟩] scope pos) (some (.Name y py)) spos.line X.env = pure true := by exact sw_true rfl rfl rfl rfl)
    (hs : ∀ x, foldedSetIterable iter X.env x = pure x := by intro _; rfl) :
    PSI X G W (.Assign [.Name y py] (.ListComp elt [⟨tg, iter, ifs, 0⟩] scope pos) spos) (sSet i (eLc t it cnd x (own.map (·.2)))) := by
  refine ⟨fun pins s σ H D I ⟨g, e0, M, R, h⟩ => ?_⟩
  exact (ps_setLc c.calm c.nd hy hyl hsw hi ok hg ht he hs).run pins s σ H D I (okLc c hi ok hg his ht he hs σ H _ ⟨g, e0, M, R, (PostS.bind h).mono fun sv e1 M1 _ k1 v H1 g1 N1 R1 r => k1 _ H1 g1 N1 (R1.put (idx_lt I hy) r)⟩)
end
end PI
/-! PISndG: dicts walked: keys, values, items. -/
namespace PI
open PySem PySem.Spec PyProof.Rows L2
end PI
/-! PISndH: calls with keywords. -/
namespace PI
open PySem PySem.Spec PyProof.Rows L2
theorem paired_filterMap {α β : Type} {R : α → β → Prop} {ss : List Src} {f : Src → Option α} {h : Src → Option β} (hfh : ∀ s, (∃ a b, f s = some a ∧ h s = some b ∧ R a b) ∨ (f s = none ∧ h s = none)) : Paired R (ss.filterMap f) (ss.filterMap h) := by
  induction ss with
  | nil => exact .nil
  | cons s ss ih =>
    rcases hfh s with ⟨a, b, e1, e2, r⟩ | ⟨e1, e2⟩
    · rw [List.filterMap_cons_some e1, List.filterMap_cons_some e2]
      exact .cons r ih
    · rw [List.filterMap_cons_none e1, List.filterMap_cons_none e2]
      exact ih
theorem vals_at {vs : List V} {us : List Value} (r : Vals vs us) (j : Nat) : (∃ a b, vs[j]? = some a ∧ us[j]? = some b ∧ RelV a b) ∨ (vs[j]? = none ∧ us[j]? = none) := by
  cases e : vs[j]? with
  | some v =>
    obtain ⟨u, e2, q⟩ := r.get e
    exact .inl ⟨v, u, rfl, e2, q⟩
  | none =>
    refine .inr ⟨rfl, ?_⟩
    rw [List.getElem?_eq_none_iff] at e ⊢
    rw [← r.length]; exact e
theorem pickL_vals {ss : List Src} {vs ds zs : List V} {us its ws : List Value} (r1 : Vals vs us) (r2 : Vals ds its) (r3 : Vals zs ws) : Vals (pickL ss vs ds zs) (pickL ss us its ws) := by
  unfold pickL
  refine paired_filterMap fun s => ?_
  cases s with
  | p j => exact vals_at r1 j
  | d j => exact vals_at r2 j
  | k j => exact vals_at r3 j
section
variable {X : Cx} {G : Ga} {W : WX} {k : Nat} {f : Addr} {fd : FuncData} {ps : List Str} {sem : FT} {pos p : Pos} {x : Str} {a : Expr} {es : List Expr} {g : Gs} {H : Hp}
theorem isL_fm {ss : List Src} {f : Src → Option D} {h : Src → Option V} (hfh : ∀ s, (∃ a b, f s = some a ∧ h s = some b ∧ Is G g H a b) ∨ (f s = none ∧ h s = none)) : IsL G g H (ss.filterMap f) (ss.filterMap h) := by
  induction ss with
  | nil => simp [IsL]
  | cons s ss ih =>
    rcases hfh s with ⟨a, b, e1, e2, r⟩ | ⟨e1, e2⟩
    · rw [List.filterMap_cons_some e1, List.filterMap_cons_some e2]
      simp only [IsL]
      exact ⟨r, ih⟩
    · rw [List.filterMap_cons_none e1, List.filterMap_cons_none e2]
      exact ih
theorem isL_pick {ss : List Src} {ds dd zs : List D} {vs vd vz : List V} (r1 : IsL G g H ds vs) (r2 : IsL G g H dd vd) (r3 : IsL G g H zs vz) : IsL G g H (pickL ss ds dd zs) (pickL ss vs vd vz) := by
  have key : ∀ {ds : List D} {vs : List V}, IsL G g H ds vs → ∀ j : Nat, (∃ a b, ds[j]? = some a ∧ vs[j]? = some b ∧ Is G g H a b) ∨ (ds[j]? = none ∧ vs[j]? = none) := fun {ds vs} r j => by
    cases e : ds[j]? with
    | some d =>
      obtain ⟨v, e2, q⟩ := r.get e
      exact .inl ⟨d, v, rfl, e2, q⟩
    | none =>
      refine .inr ⟨rfl, ?_⟩
      rw [List.getElem?_eq_none_iff] at e ⊢
      rw [← r.length]; exact e
  unfold pickL
  refine isL_fm fun s => ?_
  cases s with
  | p j => exact key r1 j
  | d j => exact key r2 j
  | k j => exact key r3 j
abbrev PKI (X : Cx) (G : Ga) (W : WX) (kws : List Keyword) (m : EM (List D)) : Prop := PK X kws (tA G W m)
theorem PK.imp {kws : List Keyword} {t t' : TA} (h : PK X kws t) (w : ∀ σ H Q, t' σ H Q → t σ H Q) : PK X kws t' := ⟨fun p pins s σ H Q I q => h.run p pins s σ H Q I (w σ H Q q)⟩
theorem okKNil : PKI X G W [] eNil := PK.imp pk_nil fun σ H Q ⟨g, e, M, R, h⟩ => h [] H g (Next.refl _ _) R (by simp only [IsL])
theorem okKCons {nm : Option Str} {kpos : Pos} {kws : List Keyword} {m : EM D} {mr : EM (List D)} (ha : PUI X G W a m) (hr : PKI X G W kws mr) : PKI X G W (⟨nm, a, kpos⟩ :: kws) (eCons m mr) :=
  PK.imp (pk_cons ha hr) fun σ H Q ⟨g, e, M, R, h⟩ => ⟨g, e, M, R, (PostR.bind h).mono fun d e1 M1 _ k v H1 g1 N1 R1 r => ⟨g1, e1, M1, R1, ((PostR.bind k).from N1).mono fun ds e2 M2 _ k2 vs H2 g2 N2 R2 r2 => k2 (v :: vs) H2 g2 (N1.trans N2) R2 (by
    simp only [IsL]
    exact ⟨r.next N2, r2⟩)⟩⟩
/-- what binds: n positional values, the keywords ks, the defaults dv -/
structure KwB (X : Cx) (G : Ga) (fd : FuncData) (ps : List Str) (n : Nat) (ks : List Str) (ss : List Src) (dd : List D) : Prop where
  ex : ∃ (dv : List V) (its : List Value), KBn X.K fd ps n ks (fun us ws => pickL ss us its ws) (fun vs zs => pickL ss vs dv zs) ∧ ∀ g H, IsL G g H dd dv
theorem okCallK (c : XI X G W k) (F : FnI X.prog X.w G X.mg X.base k f fd ps sem) (hm : X.mg x = some (.ref f)) (hk : PySem.W.keepIn X.K (.ref f) = true) {n : Nat} {dd : List D} {ks : List Str} {ss : List Src} (hb : KwB X G fd ps n ks ss dd)
    {m mk : EM (List D)} {kws : List Keyword} (ha : PAI X G W (a :: es) m) (hkw : PKI X G W kws mk)
    (hln : ∀ e M ds e' M', m e M = .ok ds e' M' → ds.length = n) (hlk : ∀ e M ds e' M', mk e M = .ok ds e' M' → ds.length = ks.length) (hlen : ∀ (ds zs : List D), ds.length = n → zs.length = ks.length → (pickL ss ds dd zs).length = ps.length)
    (hall : (backToKw pos (keywordEach kws X.env)).all (·.1.isSome) = true := by rfl) (hks : (backToKw pos (keywordEach kws X.env)).filterMap (·.1) = ks := by rfl)
    (hg : Gl X x := by rfl) (hdb : (x == ("__debug__" : Str)) = false := by decide) (he : starEach (a :: es) X.env = (false, eval a X.env) :: starEach es X.env := by rfl)
    (hpl : ((backTo pos (starEach (a :: es) X.env)).any (·.1) || (backToKw pos (keywordEach kws X.env)).any (·.1.isNone)) = false := by rfl) :
    PEI X G W (.Call (.Name x p) (a :: es) kws pos) (eCallK sem ss dd m mk) := by
  obtain ⟨dv, its, kb, id⟩ := hb.ex
  refine ⟨fun pins s σ H Q I ⟨g, e, M, R, h⟩ => ?_⟩
  refine wpAny_Call_Name_kw (ld_glob I hg hm ?_ hdb)
  refine PySem.W.callWith_KW (h₀ := X.base) I.ok.mod.kin hk hall (thn (ha.run pos pins s σ H (fun vs H1 => ∃ g1 e1 M1 ds, IsL G g1 H1 ds vs ∧ ds.length = n ∧ Next g H g1 H1 ∧ Rel G g1 σ H1 e1 M1 ∧ PostR G W g H σ (EM.bind mk (fun zs e m => (sem (pickL ss ds dd zs) m).to e) e1 M1) fun s e' M' => ∀ (v : V) (H' : Hp) (g' : Gs), Next g H g' H' → Rel G g' σ H' e' M' → SVIs G g' H' σ e' v s → Q v H') I
    ⟨g, e, M, R, (PostR.bind h).mono fun ds e1 M1 eq k1 vs H1 g1 N1 R1 r => ⟨g1, e1, M1, ds, r, hln _ _ _ _ _ eq, N1, R1, k1⟩⟩) fun us s1 ⟨vs, H1, I1, r, g1, e1, M1, ds, q, hl, N1, R1, k1⟩ => ?_) hpl he
  refine thn (hkw.run pos pins s1 σ H1 (fun zs H2 => ∃ g2 e2 M2 dz, IsL G g2 H2 dz zs ∧ dz.length = ks.length ∧ Next g1 H1 g2 H2 ∧ Rel G g2 σ H2 e2 M2 ∧ PostR G W g1 H1 σ ((sem (pickL ss ds dd dz) M2).to e2) fun s e' M' => ∀ (v : V) (H' : Hp) (g' : Gs), Next g H g' H' → Rel G g' σ H' e' M' → SVIs G g' H' σ e' v s → Q v H') I1
    ⟨g1, e1, M1, R1, ((PostR.bind k1).from N1).mono fun dz e2 M2 eq k2 zs H2 g2 N2 R2 r2 => ⟨g2, e2, M2, dz, r2, hlk _ _ _ _ _ eq, N2, R2, PostR.from N1 k2⟩⟩) fun ws s2 ⟨zs, H2, I2, rz, g2, e2, M2, dz, q2, hl2, N2, R2, k2⟩ => ⟨I2.kIn, ?_⟩
  rw [hks]
  have qa := q.next N2
  have r2 : Vals (pickL ss vs dv zs) (pickL ss us its ws) := kb.rel r rz
  have qp : IsL G g2 H2 (pickL ss ds dd dz) (pickL ss vs dv zs) := isL_pick qa (id g2 H2) q2
  have k3 : PostR G W g2 H2 σ ((sem (pickL ss ds dd dz) M2).to e2) fun s e' M' => ∀ (v : V) (H' : Hp) (g' : Gs), Next g2 H2 g' H' → Rel G g' σ H' e' M' → SVIs G g' H' σ e' v s → Q v H' :=
    (PostR.from N2 k2).mono fun s e' M' _ kk v H' g' N' => kk v H' g' ((N1.trans N2).trans N')
  refine wpAny_call (codeAny_mono (run_fnI F c I2 (kb.to s2 us ws I2.kIn (by rw [isL_len qa r]; exact hl) (by rw [isL_len q2 rz]; exact hl2)) r2 (spI_of R2 (hlen ds dz hl hl2) qp k3) (ff := fun v _ _ => Sem.pure v)) fun r s' hq => ?_)
  cases r with
  | error e => exact hq
  | ok fl => cases fl with
    | ret u => exact hq
    | next => exact hq
    | brk => exact hq
    | cont => exact hq
/-! lengths of arguments -/
def LenIs {α : Type} (m : EM (List α)) (n : Nat) : Prop := ∀ e M ds e' M', m e M = .ok ds e' M' → ds.length = n
theorem lenNil {α : Type} : LenIs (eNil : EM (List α)) 0 := fun e M ds e' M' h => by cases h; rfl
theorem lenCons {α : Type} {m : EM α} {r : EM (List α)} {n : Nat} (h : LenIs r n) : LenIs (eCons m r) (n + 1) := fun e M ds e' M' h1 => by
  unfold eCons at h1
  simp only [bind_ap] at h1
  cases hm : m e M with
  | ok d e1 M1 =>
    rw [hm] at h1
    simp only [bind_ok, bind_ap] at h1
    cases hr : r e1 M1 with
    | ok xs e2 M2 =>
      rw [hr] at h1
      cases h1
      exact congrArg Nat.succ (h _ _ _ _ _ hr)
    | err x e2 M2 => rw [hr] at h1; cases h1
    | stuck => rw [hr] at h1; cases h1
  | err x e1 M1 => rw [hm] at h1; cases h1
  | stuck => rw [hm] at h1; cases h1
end
end PI
/-! PISet: set(xs), xs a list or a tuple of ints and texts: made, counted, sorted. -/
namespace PI
open PySem PySem.Spec PyProof.Rows L2
end PI
/-! PISet2: set(xs) of a list, a tuple (printed by gen_set.py). -/
namespace PI
open PySem PySem.Spec PyProof.Rows L2
end PI
/-! PISet3: sorted of a set, a dict; the number of a set. -/
namespace PI
open PySem PySem.Spec PyProof.Rows L2
end PI
/-! PISet4: sorted(xs), sorted(set(xs)), len(set(xs)). -/
namespace PI
open PySem PySem.Spec PyProof.Rows L2
end PI
/-! PISet5: sorted(set(xs)). -/
namespace PI
open PySem PySem.Spec PyProof.Rows L2
end PI
/-! PIGen: what the printed texts lean on. -/
namespace PI
open PySem PySem.Spec PyProof.Rows L2
/-- a def of the text that is known -/
structure Kn (P : Program) (w : World) (G : Ga) (mg : Str → Option Value) (base : Heap) (k : Nat) (x : Str) (ps : List Str) (sem : FT) (f : Addr) (fd : FuncData) : Prop where
  m : mg x = some (.ref f)
  kp : PySem.W.keepIn G.K (.ref f) = true
  fn : FnI P w G mg base k f fd ps sem
theorem Kn.mono {P : Program} {w : World} {G : Ga} {mg : Str → Option Value} {base : Heap} {j k : Nat} {x : Str} {ps : List Str} {sem : FT} {f : Addr} {fd : FuncData} (h : Kn P w G mg base j x ps sem f fd) (l : j ≤ k) : Kn P w G mg base k x ps sem f fd := ⟨h.m, h.kp, h.fn.mono l⟩
theorem FnI.none {P : Program} {w : World} {G : Ga} {mg : Str → Option Value} {base : Heap} {k : Nat} {ps : List Str} {f : Addr} {fd : FuncData} : FnI P w G mg base k f fd ps (fun _ _ => .stuck) :=
  ⟨fun A outer s H args us vs Q E hr e0 hb r hsp => by obtain ⟨g, ds, M, _, _, _, _, z⟩ := hsp; exact False.elim z⟩
/-- positional arguments, then the defaults dd -/
def Bd (G : Ga) (fd : FuncData) (ps : List Str) (dd : List D) : Prop := ∃ (dvs : List Value) (dv : List V), Binds G.K fd ps dvs ∧ Vals dv dvs ∧ ∀ g H, IsL G g H dd dv
def KwI (G : Ga) (fd : FuncData) (ps : List Str) (n : Nat) (ks : List Str) (ss : List Src) (dd : List D) : Prop := ∃ (dv : List V) (its : List Value), KBn G.K fd ps n ks (fun us ws => pickL ss us its ws) (fun vs zs => pickL ss vs dv zs) ∧ ∀ g H, IsL G g H dd dv
section
variable {X : Cx} {G : Ga} {W : WX} {k j : Nat} {f : Addr} {fd : FuncData} {ps : List Str} {sem : FT} {pos p : Pos} {x : Str} {a : Expr} {es : List Expr}
theorem okCallB (c : XI X G W k) (h : Kn X.prog X.w G X.mg X.base j x ps sem f fd) {dd : List D} (b : Bd G fd ps dd) {m : EM (List D)} (ha : PAI X G W (a :: es) m) (hl : LenIs m (a :: es).length)
    (hj : j ≤ k := by omega) (hlen : (a :: es).length + dd.length = ps.length := by rfl) (hg : Gl X x := by rfl) (hdb : (x == ("__debug__" : Str)) = false := by decide) (he : starEach (a :: es) X.env = (false, eval a X.env) :: starEach es X.env := by rfl) (hpl : (backTo pos (starEach es X.env)).any (·.1) = false := by rfl) :
    PEI X G W (.Call (.Name x p) (a :: es) [] pos) (eCallD sem dd m) := by
  obtain ⟨dvs, dv, b1, b2, b3⟩ := b
  rw [← c.K] at b1
  exact okCall c (n := 0) (h.fn.mono hj) h.m (by rw [c.K]; exact h.kp) b1 b2 b3 ha hlen hl hg hdb he hpl
theorem okCallKB (c : XI X G W k) (h : Kn X.prog X.w G X.mg X.base j x ps sem f fd) {n : Nat} {dd : List D} {ks : List Str} {ss : List Src} (b : KwI G fd ps n ks ss dd) {m mk : EM (List D)} {kws : List Keyword} (ha : PAI X G W (a :: es) m) (hkw : PKI X G W kws mk)
    (hln : LenIs m n) (hlk : LenIs mk ks.length) (hj : j ≤ k := by omega) (hlen : ∀ (ds zs : List D), ds.length = n → zs.length = ks.length → (pickL ss ds dd zs).length = ps.length )
    (hall : (backToKw pos (keywordEach kws X.env)).all (·.1.isSome) = true := by rfl) (hks : (backToKw pos (keywordEach kws X.env)).filterMap (·.1) = ks := by rfl)
    (hg : Gl X x := by rfl) (hdb : (x == ("__debug__" : Str)) = false := by decide) (he : starEach (a :: es) X.env = (false, eval a X.env) :: starEach es X.env := by rfl)
    (hpl : ((backTo pos (starEach (a :: es) X.env)).any (·.1) || (backToKw pos (keywordEach kws X.env)).any (·.1.isNone)) = false := by rfl) :
    PEI X G W (.Call (.Name x p) (a :: es) kws pos) (eCallK sem ss dd m mk) := by
  obtain ⟨dv, its, b1, b2⟩ := b
  rw [← c.K] at b1
  exact okCallK c (h.fn.mono hj) h.m (by rw [c.K]; exact h.kp) ⟨dv, its, b1, b2⟩ ha hkw hln hlk hlen hall hks hg hdb he hpl
theorem ok_mul : OpR X (binaryOp .Mult) (rOp2 G fMul) := by
  intro pins s σ H x y v u Q I rx ry ⟨g, M, d1, d2, r, R, v1, v2, e, q⟩
  unfold fMul at e
  split at e
  · split at e
    · rename_i h
      cases e
      cases vw_int v1
      cases vw_int v2
      exact op_mul pins s σ H _ _ v u Q I rx ry ⟨_, _, rfl, rfl, small_cmul h, q _ _ (Grow.refl _) rfl⟩
    · cases e
  · cases e
theorem okDicI {i j : Int} {n m : Nat} {p1 p2 : Pos} : PEI X G W (.Dict [some (.Constant (.int i) n p1)] [.Constant (.int j) m p2] pos) (eDicI i j) :=
  PE.imp (pe_disp (pps_cons pe_int pe_int pps_nil) rfl rfl (by simp) (by simp)) fun σ H Q ⟨g, e, M, R, h⟩ p hp => by
    have w : Grow H (upd H p (.dK [(.inl i, .int j)])) := Grow.upd hp
    have ee : upd (upd H p (.dK [])) p (.dK (mergeK [] [(Sum.inl i, V.int j)])) = upd H p (.dK [(.inl i, .int j)]) := by rw [upd_upd'] <;> rfl
    refine ⟨upd_same, [(.inl i, .int j)], rfl, by simp, ?_⟩
    rw [ee]
    exact h (.ref p) _ g (R.toHRel.grows w) (R.grow w) (NewSV.sv (r := .own (.dic [(.int i, .int j)])) R w ⟨p, rfl, hp, .inl ⟨_, upd_same, by simp only [IsK, Is, kV]; exact ⟨trivial, trivial, trivial⟩⟩⟩)
/-- x, y = a, b -/
theorem okPar (c : XI X G W k) {x y : Str} {a b : Expr} {m : EM (List D)} {px py pt pt2 : Pos} {kt k2 : Nat} (i j : Nat) (ha : PAI X G W [a, b] m) (hl : LenIs m 2) (hij : i ≠ j := by decide) (hi : X.N[i]? = some x := by rfl) (hj : X.N[j]? = some y := by rfl)
    (hx : X.env.scope.names.lookup x = some .local := by rfl) (hy : X.env.scope.names.lookup y = some .local := by rfl)
    (hw : swappedStores [.Tuple [.Name x px, .Name y py] kt pt] (.Tuple [a, b] k2 pt2) X.env = pure (some [x, y]) := by rfl)
    (hs : swapsWithSole [.Tuple [.Name x px, .Name y py] kt pt] (.Tuple [a, b] k2 pt2) pos.line X.env = pure false := by rfl) :
    PSI X G W (.Assign [.Tuple [.Name x px, .Name y py] kt pt] (.Tuple [a, b] k2 pt2) pos) (sAsg (gTup [gNm i, gNm j]) (eTup m)) := by
  refine ⟨fun pins s σ H Ds I ⟨g, e, M, R, h⟩ => ?_⟩
  refine (ps_par c.calm c.nd hi hj hij hx hy ha hw hs).run pins s σ H Ds I ⟨g, e, M, R, ?_⟩
  have h1 := PostS.bind (σ := σ) h
  have h2 : PostR G W g H σ (m e M) fun ds e' M' => PostS G W g H Ds (EM.bind (TG.em (gTup [gNm i, gNm j]) (.tup ds)) (fun _ => EM.pure .nx) e' M') := by
    unfold eTup at h1
    simp only [bind_ap] at h1
    cases hm : m e M with
    | ok ds e1 M1 =>
      rw [hm] at h1
      simp only [bind_ok] at h1
      by_cases hz : ds.length ≤ 1000
      · rw [if_pos hz] at h1
        exact h1
      · rw [if_neg hz] at h1
        exact False.elim h1
    | err z e1 M1 => rw [hm] at h1; exact h1
    | stuck => rw [hm] at h1; exact h1
  refine h2.mono fun ds e1 M1 eq k1 vs H1 g1 N1 R1 r => ?_
  have l2 := hl _ _ _ _ _ eq
  match ds, l2, k1, r with
  | [d1, d2], _, k1, r =>
    obtain ⟨v, w, rfl, r1, r2⟩ := isL2 r
    refine ⟨v, w, rfl, ?_⟩
    have b1 : i < σ.length := idx_lt I hi
    have b2 : j < σ.length := idx_lt I hj
    have R2 := (R1.put (s := .val d1) b1 r1).put (i := j) (s := .val d2) (by rw [List.length_set]; exact b2) r2
    exact k1 _ H1 g1 N1 R2
theorem okYes : PTs X [] (tT G W tYes) := ⟨fun pins s σ H Q I ⟨g, e, M, R, h⟩ => pts_nil.run pins s σ H Q I (h H g (Next.refl _ _) R)⟩
/-- x = e, x kept at once -/
theorem okFrz {st : Stmt} {i : Nat} {m : EM SV} (h : PSI X G W st (sSet i m)) : PSI X G W st (sSetF i m) := by
  refine ⟨fun pins s σ H D I ⟨g, e, M, R, q⟩ => ?_⟩
  have q2 := PostS.bind (σ := σ) q
  have q3 : PostS G W g H D ((m e M).bind fun s e m => .ok .nx (setS e i (.val s.d)) m) := q
  refine wpAny_mono (h.run pins s σ H { nx := fun σ' H' => ∃ (g' : Gs) (e' : PI.Env) (M' : MH) (sv : SV), Next g H g' H' ∧ Rel G g' σ' H' (setS e' i sv) M' ∧ (∀ (σ' : St) (H' : Hp) (g' : Gs), Next g H g' H' → Rel G g' σ' H' (setS e' i (.val sv.d)) M' → D.nx σ' H'), rt := fun _ _ => False } I ⟨g, e, M, R, ?_⟩) (fun fl s' hs => ?_) fun z s' hs => hs
  · show PostS G W g H _ ((m e M).bind fun s e m => .ok .nx (setS e i s) m)
    cases hm : m e M with
    | stuck => rw [hm] at q2; exact q2
    | err x e' M' => rw [hm] at q3; exact q3
    | ok sv e' M' =>
      rw [hm] at q2
      exact fun σ' H' g' N R' => ⟨g', e', M', sv, N, R', q2⟩
  · cases fl with
    | ret u => obtain ⟨_, _, _, _, _, z⟩ := hs; exact False.elim z
    | brk => obtain ⟨_, _, _, z⟩ := hs; exact False.elim z
    | cont => obtain ⟨_, _, _, z⟩ := hs; exact False.elim z
    | next =>
      obtain ⟨σ', H', J, g', e', M', sv, N, R', kk⟩ := hs
      cases sv with
      | val d => exact ⟨σ', H', J, kk σ' H' g' N R'⟩
      | own o =>
        by_cases hi : i < e'.length
        · obtain ⟨a, e1, r, z, mm⟩ := R'.ow i o (by unfold setS; exact List.getElem?_set_self hi)
          have aux : ∀ {j : Nat} {w : SV}, (List.set e' i none)[j]? = some (some w) → (setS e' i (.own o))[j]? = some (some w) ∧ j ≠ i := fun {j w} h1 => by
            by_cases hj : i = j
            · subst hj
              rw [List.getElem?_set_self hi] at h1
              cases h1
            · rw [List.getElem?_set_ne hj] at h1
              exact ⟨by unfold setS; rw [List.getElem?_set_ne hj]; exact h1, fun z => hj z.symm⟩
          have R0 : Rel G g' σ' H' (List.set e' i none) M' :=
            ⟨R'.toHRel, by rw [List.length_set]; have := R'.el; unfold setS at this; rw [List.length_set] at this; exact this, fun j d h1 => R'.sl j d (aux h1).1, fun j w h1 => R'.ow j w (aux h1).1, fun j k b w w' h1 h2 => R'.di j k b w w' (aux h1).1 (aux h2).1⟩
          have sv : SVIs G g' H' σ' (List.set e' i none) (.ref a) (.own o) := ⟨a, rfl, r, z, mm, fun j w h1 h2 => (aux h1).2 (R'.di i j a o w (by unfold setS; exact List.getElem?_set_self hi) (aux h1).1 e1 h2).symm⟩
          obtain ⟨H2, I2, N2, R2, s2⟩ := freeze_own J R0 sv
          have R3 := R2.out e1 s2
          have es : setS (List.set e' i none) i (.val o.snap) = setS e' i (.val o.snap) := by unfold setS; rw [List.set_set]
          rw [es] at R3
          exact ⟨σ', H2, I2, kk σ' H2 g' (N.trans N2) R3⟩
        · have e0 : ∀ s : SV, setS e' i s = e' := fun s => by unfold setS; exact List.set_eq_of_length_le (by omega)
          rw [e0] at R'
          exact ⟨σ', H', J, kk σ' H' g' N (by rw [e0]; exact R')⟩
end
end PI
/-! PISndI: enumerate of lists and tuples, zip. -/
namespace PI
open PySem PySem.Spec PyProof.Rows L2
/-- enumerate of a tuple, its two new cells -/
theorem meets_enumB {v : Value} {o : Obj} {Hh : Heap → Prop} (B : Begins v o Hh) :
    Meets (Builtin.«enumerate.__new__» ⟨[.type "enumerate", v], []⟩) (fun _ R s => Hh s.heap ∧
      R (.ok (.ret (.ref (s.heap.push o).objs.size))) { s with heap := (s.heap.push o).push { cls := .type "enumerate", data := .fields #[.none, .bool false, .ref s.heap.objs.size, rawInt 0, .none, .none] } }) :=
  .of_wp fun prog w A R s h => by
    obtain ⟨hp, g, d, tk, os⟩ := s
    obtain ⟨h1, h⟩ := h
    have hsub := sub_enumerate
    have q1 : ∀ {A' : Around} {E : Value → Shared → Prop} {Q : Value → Shared → Prop}, Q (.ref hp.objs.size) ⟨hp.push o, g, d, tk, os⟩ → wpAny (model prog w) A' (pyIter v) Q E ⟨hp, g, d, tk, os⟩ :=
      fun q => B.iter prog w _ _ ⟨hp, g, d, tk, os⟩ _ h1 q
    wp_walk using q1
    refine wpAny_stack_any fun st => wpAny_pure ?_
    split
    · rename_i c _ _ _ _ _
      cases (c == Value.type "enumerate")
      · wp_walk using q1
        exact ⟨_, rfl, h⟩
      · wp_walk using q1
        exact ⟨_, rfl, h⟩
    · wp_walk using q1
      exact ⟨_, rfl, h⟩
theorem enum_beg {prog : Program} {w : World} {A : Around} {E : Value → Shared → Prop} {s : Shared} {v : Value} {o : Obj} {Hh : Heap → Prop} {Q : Value → Shared → Prop} (B : Begins v o Hh) (h1 : Hh s.heap)
    (h : ∀ h', IsEnum h' (s.heap.objs.size + 1) s.heap.objs.size 0 .none → h'.get? s.heap.objs.size = some o → h'.objs.size = s.heap.objs.size + 2 →
      (∀ b o, s.heap.get? b = some o → h'.get? b = some o) → Q (.ref (s.heap.objs.size + 1)) { s with heap := h' }) :
    wpAny (model prog w) A (call (.type "enumerate") [v]) Q E s := by
  refine callType_new F.called_enumerate (by decide) (F.typeCall_enumerate_1 _) (F.newCall_enumerate_1 _) (fun obj => F.args_object_init_2 obj _) F.entry_enumerate_new (meets_enumB B) ⟨h1, ?_⟩
  have hz : (s.heap.push o).objs.size = s.heap.objs.size + 1 := Heap.size_push ..
  show _ ∧ _
  rw [hz]
  have he : IsEnum ((s.heap.push o).push { cls := .type "enumerate", data := .fields #[.none, .bool false, .ref s.heap.objs.size, rawInt 0, .none, .none] }) (s.heap.objs.size + 1) s.heap.objs.size 0 .none := by
    have := Heap.get?_push_size (s.heap.push o) (o := { cls := .type "enumerate", data := .fields #[.none, .bool false, .ref s.heap.objs.size, rawInt 0, .none, .none] }) rfl
    rw [hz] at this; exact this
  refine ⟨⟨_, he, rfl⟩, h _ he (Heap.get?_push_of_some _ (Heap.get?_push_size _ B.free)) (by rw [Heap.size_push, hz]) fun b o x => Heap.get?_push_of_some _ (Heap.get?_push_of_some _ x)⟩
/-- the tuple at a as it stands at each turn, each item in a new pair -/
def IteT (K : PySem.W.Frag) (a : Addr) : It :=
  ⟨fun i H => ∃ (xs : List V) (x : V), SqT K H a xs ∧ xs[i]? = some x, fun i H v H' => ∃ T x, v = .ref T ∧ H T = none ∧ H' = upd H T (.tup [.int (i : Nat), x]) ∧ ∀ xs, SqT K H a xs → xs[i]? = some x, fun i H => ∃ xs : List V, SqT K H a xs ∧ xs.length ≤ i⟩
theorem turn_enumT {P : Program} {w : World} {K : PySem.W.Frag} {elts : List Expr} {kk : Nat} {tpos : Pos} (a e it : Addr) :
    Turn P w K (.Tuple elts kk tpos) (IteT K a) [e, it] e (fun i h => (∃ old, IsEnum h e it ((i : Nat) : Int) old) ∧ h.IsTupleIter it a i ∧ e ≠ it ∧ a ≠ it ∧ a ≠ e) where
  mem := by simp
  obj := fun i h st b hb => by
    obtain ⟨⟨old, he⟩, ⟨o, ho, hc, hd⟩, _⟩ := st
    have e' : b = e ∨ b = it := by simpa using hb
    rcases e' with z | z
    · rw [z]; exact ⟨_, he, fun v q => nomatch q⟩
    · rw [z]; exact ⟨o, ho, fun v q => by rw [hd] at q; cases q⟩
  keep := fun i h h' st k => let ⟨⟨old, he⟩, hi, hne⟩ := st; ⟨⟨old, k e (by simp) _ he⟩, hi.at fun o q => k it (by simp) o q, hne⟩
  item := by
    intro X hP hw hK hc i pins s σ H E I hf st hg
    subst hP hw hK
    obtain ⟨⟨old, he⟩, hit, hne, hai, hae⟩ := st
    obtain ⟨xs, x, hq, hx⟩ := hg
    obtain ⟨its, rv, p, hz⟩ := I.tuple hq
    obtain ⟨u, hu, ru⟩ := rv.get hx
    have hel : e < s.heap.objs.size := Heap.lt_size he
    have hil : it < s.heap.objs.size := by obtain ⟨_, q, _⟩ := hit; exact Heap.lt_size q
    have hlt : i < its.toArray.size := by
      have := (List.getElem?_eq_some_iff.mp hu).1
      simpa using this
    refine wpAny_pyNext_enum_itemD (Draws.tuple (A := X.A.in1) (show X.A.in1.handled = none from I.ok.hd hc) it a hai its.toArray) he ⟨hit, p⟩ hlt hne (by simp only [List.mem_cons, List.not_mem_nil, or_false]; rintro (z | z); exact hne z; exact hae z.symm) fun y h' tk hy ho hst hT hsz hk => ?_
    have ey : y = u := by
      have : its[i]? = some y := by simpa using hy
      rw [hu] at this
      exact (Option.some.inj this).symm
    subst ey
    refine ⟨_, rfl, wpAny_letOwnedTupleGo_enum (s := { s with heap := h', toks := tk + 1 }) ho fun h'' he' sb => ?_⟩
    have hT2 : h''.get? s.heap.objs.size = some { cls := .type "tuple", data := .seq #[.int i tk, y] } := (sb.2 _ (Nat.ne_of_gt hel)).trans hT
    have new : ObjOk X.prog X.w (upd H s.heap.objs.size (.tup [.int (i : Nat), x])) h'' s.heap.objs.size (.tup [.int (i : Nat), x]) :=
      ⟨by show 2 ≤ sizeLine; decide, [.int i tk, y], .cons ⟨_, rfl⟩ (.cons ru .nil), ⟨_, hT2, rfl, _, rfl⟩⟩
    have I1 : Inv X pins σ (upd H s.heap.objs.size (.tup [.int (i : Nat), x])) { s with heap := h'', toks := tk + 1 } :=
      I.turnedNew (ch := [e, it]) (fun b ob hb q => (sb.2 b (fun z => hb (by simp [z]))).trans (hk b ob (fun z => hb (by simp [z])) (fun z => hb (by simp [z])) q)) hf (Nat.le_refl _) new
    refine ⟨.ref s.heap.objs.size, _, I1, rfl, ⟨_, x, rfl, I.hok.fresh (Nat.le_refl _), rfl, fun ys hy => by rw [I.tuple_inj hy hq]; exact hx⟩, ⟨⟨y, ?_⟩, hst.1.at fun o q => (sb.2 it (Ne.symm hne)).trans q, hne, hai, hae⟩, fun b hb => ?_⟩
    · have e1 : ((i + 1 : Nat) : Int) = (i : Int) + 1 := by omega
      rw [e1]; exact he'
    · have hb' : b < s.heap.objs.size := by
        have e' : b = e ∨ b = it := by simpa using hb
        rcases e' with z | z
        · rw [z]; exact hel
        · rw [z]; exact hil
      rw [upd_ne (Nat.ne_of_lt hb')]
      exact (hf b hb).1
  done := by
    intro X hP hw hK hc i pins s σ H E I hf st hg
    subst hP hw hK
    obtain ⟨⟨old, he⟩, hit, hne, hai, hae⟩ := st
    obtain ⟨xs, hq, hx⟩ := hg
    obtain ⟨its, rv, p, hz⟩ := I.tuple hq
    obtain ⟨f0, f1, f2, f3, f4, f5⟩ := hf it (by simp)
    have hl := rv.length
    have hT : s.TypeIs (.ref e) "enumerate" := ⟨_, he, rfl⟩
    have end_ : ∀ {Q : Option Value → Shared → Prop} {E : Value → Shared → Prop}, (∀ h', Heap.ExtBut it s.heap h' → Q none { s with heap := h' }) → wpAny (model X.prog X.w) X.A (pyNext (.ref e)) Q E s := fun {Q E} hQ => by
      unfold pyNext
      refine wpAny_bind (wpAny_attempt (wpAny_callSpecial?_slot (name := Str.ofString "__next__") hT F.slot_enumerate_next (wpAny_call_entry F.slot_enumerate_next hT F.entry_enumerate_next ?_ (F.args_enumerate_next_1 _))))
      show wpAny _ _ (field (.ref e) 2 >>= _) _ _ _
      refine wpAny_bind (wpAny_field he rfl (x := .ref it) rfl ?_)
      refine wpAny_bind (wpAny_nextOf_tuple_end (I.ok.hd hc) hit p (by simp; omega) fun h' x he' hx' => ?_)
      obtain ⟨o, ho, hc⟩ := hx'
      refine wpAny_bind (wpAny_isInstance (T := "StopIteration") (b := true) ⟨o, ho, hc⟩ isSubtype_stop ?_)
      exact wpAny_pure (hQ _ he')
    exact end_ fun h' eb => ⟨rfl, I.turned (t' := s.toks) (fun b o hb q => eb b o hb q) f0 f1 f3 f4 f5⟩
  self := fun A i s Q E st h => let ⟨⟨_, he⟩, _⟩ := st; wpAny_pyIter_enum he h
def iEnumT (K : PySem.W.Frag) (ta : TA) : TI := fun σ H R => ta σ H fun vs H1 => ∃ a xs, vs = [.ref a] ∧ SqT K H1 a xs ∧ R (IteT K a) H1
theorem pi_enumT {X : Cx} {e : Expr} {ta : TA} {p pos tpos : Pos} {elts : List Expr} {kk : Nat} (hg : Gl X "enumerate") (hm : X.mg "enumerate" = none) (ha : PA X [e] ta) (hs : starEach [e] X.env = [(false, eval e X.env)] := by rfl) :
    PI X (.Tuple elts kk tpos) (.Call (.Name "enumerate" p) [e] [] pos) (iEnumT X.K ta) := by
  refine ⟨fun pins s σ H R I h => ?_⟩
  refine Call_ (ld_blt I hg hm boot_enumerate (PyProof.Rows.callWith_type1 (thn (ha.run pos pins s σ H _ I h) fun us s1 ⟨vs, H1, I1, r1, q1⟩ => ?_) hs rfl))
  obtain ⟨a, xs, ex, hq, q⟩ := q1
  subst ex
  cases r1 with
  | cons r rr =>
    cases rr
    cases r
    obtain ⟨its, rv, p', hz⟩ := I1.tuple hq
    have la : a < s1.heap.objs.size := by obtain ⟨_, q, _⟩ := p'; exact Heap.lt_size q
    refine enum_beg (begins_tuple a its.toArray) p' fun h' he hit hsz hk => wpAny_pyIter_enum he ?_
    have I2 : Inv X pins σ H1 { s1 with heap := h' } := I1.kept (t' := s1.toks) hk
    refine ⟨s1.heap.objs.size + 1, [s1.heap.objs.size + 1, s1.heap.objs.size], _, _, H1, rfl, I2, turn_enumT a (s1.heap.objs.size + 1) s1.heap.objs.size, ⟨⟨.none, he⟩, ⟨_, hit, rfl, rfl⟩, Nat.succ_ne_self _, Nat.ne_of_lt la, Nat.ne_of_lt (Nat.lt_succ_of_lt la)⟩, fun b hb => ?_, q⟩
    have e' : b = s1.heap.objs.size + 1 ∨ b = s1.heap.objs.size := by simpa using hb
    have hle : s1.heap.objs.size ≤ b := by
      rcases e' with z | z
      · rw [z]; exact Nat.le_add_right _ _
      · rw [z]; exact Nat.le_refl _
    exact I1.fpOk hle (I1.hok.fresh hle)
section
variable {X : Cx} {G : Ga} {W : WX} {k : Nat} {pos p tpos : Pos} {elts : List Expr} {kk : Nat} {e e2 : Expr}
theorem enumG_get : ∀ (xs : List D) (n i : Nat), (enumG n xs)[i]? = (xs[i]?).map fun x => .tupw [.int ((n + i : Nat) : Int), x]
  | [], n, i => by simp [enumG]
  | x :: xs, n, 0 => by simp [enumG]
  | x :: xs, n, i + 1 => by
    simp only [enumG, List.getElem?_cons_succ]
    rw [enumG_get xs (n + 1) i, show n + 1 + i = n + (i + 1) by omega]
theorem enumG_len (xs : List D) : ∀ n, (enumG n xs).length = xs.length := by
  induction xs with
  | nil => intro n; rfl
  | cons x xs ih => intro n; simp [enumG, ih]
theorem is_pair {g : Gs} {H2 H3 : Hp} {T : Addr} {i : Nat} {x : V} {d : D} (hT : H2 T = none) (e : H3 = L2.upd H2 T (.tup [.int (i : Nat), x])) (h : Is G g H2 d x) : Grow H2 H3 ∧ Is G g H3 (.tupw [.int ((0 + i : Nat) : Int), d]) (.ref T) := by
  subst e
  have w : Grow H2 (L2.upd H2 T (.tup [.int (i : Nat), x])) := Grow.upd hT
  have NI : NextI g H2 g (L2.upd H2 T (.tup [.int (i : Nat), x])) := ⟨⟨[], by simp⟩, fun b o' h n => w b o' h⟩
  refine ⟨w, ?_⟩
  rw [Nat.zero_add]
  simp only [Is, IsL]
  exact ⟨T, _, rfl, upd_same, rfl, h.nextI NI, trivial⟩
theorem okIEnum (c : XJ X G W) {m : EM (List D)} (hm : X.mg "enumerate" = none) (ha : PAI X G W [e] m) (hg : Gl X "enumerate" := by rfl) (hs : starEach [e] X.env = [(false, eval e X.env)] := by rfl) :
    PII X G W (.Tuple elts kk tpos) (.Call (.Name "enumerate" p) [e] [] pos) (itArgs enumOf m) := by
  have pl := pi_enum (elts := elts) (kk := kk) (tpos := tpos) (p := p) (pos := pos) hg hm ha hs
  have pt := pi_enumT (elts := elts) (kk := kk) (tpos := tpos) (p := p) (pos := pos) hg hm ha hs
  refine PI.look (PI.or pl pt) (P := fun _ H => Sizes X.K H) (fun σ H R ⟨g, e0, M, R0, h⟩ => ?_) fun pins σ J H s I => Inv.sizes I
  have use := PostR.bind h
  cases hr : m e0 M with
  | stuck => rw [hr] at use; exact False.elim use
  | err x e1 M1 => rw [hr] at use; exact .inl ⟨g, e0, M, R0, by rw [hr]; exact use⟩
  | ok ds0 e1 M1 =>
    rw [hr] at use
    obtain ⟨ds, eds, K1⟩ := lift_ok use
    have kind : (∃ xs, ds0 = [.lst xs] ∧ ds = enumG 0 xs) ∨ ∃ xs, (ds0 = [.tup xs] ∨ ds0 = [.tupw xs]) ∧ ds = enumG 0 xs := by
      unfold enumOf at eds
      split at eds
      · exact .inl ⟨_, rfl, (Option.some.inj eds).symm⟩
      · exact .inr ⟨_, .inl rfl, (Option.some.inj eds).symm⟩
      · exact .inr ⟨_, .inr rfl, (Option.some.inj eds).symm⟩
      · cases eds
    rcases kind with ⟨xs, rfl, rfl⟩ | ⟨xs, ed, rfl⟩
    · refine .inl ⟨g, e0, M, R0, ?_⟩
      rw [hr]
      intro vs0 H1 g1 N1 R1 r
      obtain ⟨v0, rfl, r0⟩ : ∃ v0, vs0 = [v0] ∧ Is G g1 H1 (.lst xs) v0 := by
        match vs0, r with
        | [v], r => exact ⟨v, rfl, by simp only [IsL] at r; exact r.1⟩
        | [], r => simp only [IsL] at r
        | _ :: _ :: _, r => simp only [IsL] at r; exact r.2.elim
      simp only [Is] at r0
      obtain ⟨a, vs, rfl, lf, rl⟩ := r0
      have sq : ∀ {H2 : Hp}, LF H2 G.K a vs → SqL X.K H2 a vs := fun q => by rw [c.K]; exact q.sq
      refine ⟨a, vs, rfl, sq lf, fun sz => K1 _ H1 g1 N1 R1 (fun i g2 H2 N2 => ⟨fun d hd => ?_, fun hle => ?_⟩) ?_⟩
      · rw [enumG_get] at hd
        obtain ⟨x, hx, rfl⟩ := Option.map_eq_some_iff.mp hd
        obtain ⟨w, hw, iw⟩ := (rl.next N2).get hx
        refine ⟨⟨vs, w, sq (lf.nextI N2.i), hw⟩, fun y H3 hy => ?_⟩
        obtain ⟨T, x', rfl, hT, eH, hl⟩ := hy
        have := hl vs (sq (lf.nextI N2.i))
        rw [hw] at this
        cases this
        exact is_pair hT eH iw
      · exact ⟨vs, sq (lf.nextI N2.i), by rw [enumG_len] at hle; rw [← IsL.length rl]; exact hle⟩
      · rw [enumG_len, IsL.length rl]
        exact sz.1 a vs (sq lf)
    · refine .inr ⟨g, e0, M, R0, ?_⟩
      rw [hr]
      intro vs0 H1 g1 N1 R1 r
      obtain ⟨a, vs, rfl, lf, rl⟩ : ∃ a vs, vs0 = [.ref a] ∧ SqT G.K H1 a vs ∧ IsL G g1 H1 xs vs := by
        rcases ed with rfl | rfl
        · match vs0, r with
          | [v], r =>
            simp only [IsL, Is] at r
            obtain ⟨⟨a, vs, rfl, q, r⟩, _⟩ := r
            exact ⟨a, vs, rfl, q.t, r⟩
          | [], r => simp only [IsL] at r
          | _ :: _ :: _, r => simp only [IsL] at r; exact r.2.elim
        · match vs0, r with
          | [v], r =>
            simp only [IsL, Is] at r
            obtain ⟨⟨a, vs, rfl, q, r⟩, _⟩ := r
            exact ⟨a, vs, rfl, .inl (.inl q), r⟩
          | [], r => simp only [IsL] at r
          | _ :: _ :: _, r => simp only [IsL] at r; exact r.2.elim
      rw [← c.K] at lf
      refine ⟨a, vs, rfl, lf, fun sz => K1 _ H1 g1 N1 R1 (fun i g2 H2 N2 => ⟨fun d hd => ?_, fun hle => ?_⟩) ?_⟩
      · rw [enumG_get] at hd
        obtain ⟨x, hx, rfl⟩ := Option.map_eq_some_iff.mp hd
        obtain ⟨w, hw, iw⟩ := (rl.next N2).get hx
        refine ⟨⟨vs, w, sqT_nextI N2.i lf, hw⟩, fun y H3 hy => ?_⟩
        obtain ⟨T, x', rfl, hT, eH, hl⟩ := hy
        have := hl vs (sqT_nextI N2.i lf)
        rw [hw] at this
        cases this
        exact is_pair hT eH iw
      · exact ⟨vs, sqT_nextI N2.i lf, by rw [enumG_len] at hle; rw [← IsL.length rl]; exact hle⟩
      · rw [enumG_len, IsL.length rl]
        exact sz.2.1 a vs lf
/-! zip -/
end
end PI
/-! PISndJ: least of data, join, methods of lists or tuples. -/
namespace PI
open PySem PySem.Spec PyProof.Rows L2
section
variable {prog : Program} {w : World} {A : Around} {E : Value → Shared → Prop} {s : Shared}
/-- the least of a list, at its place -/
theorem min_list_at {l : Addr} {vs : Array Value} {x : PyData} {xs : List PyData} {as : List Addr} {Q : Value → Shared → Prop} (hh : A.handled = none) (hl : s.heap.IsList l vs) (hr : ReadsAll s.heap vs.toList (x :: xs) as) (ha : PySem.W.AlikeAll (x :: xs)) (hu : A.units + 1 + PyData.depthAll (x :: xs) < cLine)
    (h : ∀ v h' tk, vs[argBest (fun i j => PySem.W.dataLt ((x :: xs).getD i .none) ((x :: xs).getD j .none)) xs.length]? = some v → (∀ b o, s.heap.get? b = some o → h'.get? b = some o) → Q v { s with heap := h', toks := tk }) :
    wpAny (model prog w) A (call (.builtin "min") [.ref l]) Q E s := by
  have hn : vs.size = xs.length + 1 := PySem.W.readsAll_len hr
  refine call_min_walkH (PySem.W.iter_listW (A := A.in1) hh hl fun s₂ e W st hfp hw hk => ?_)
  refine ⟨_, _, _, _, _, _, _, s.heap, _, rfl, W, st, hfp, by omega, hw, hk, PySem.W.cmpIn_lt (A := A.in1) hr ha (by show A.units + 1 + _ < _; exact hu), fun v s' hP m => ?_⟩
  obtain ⟨h', tk, rfl, hk'⟩ := PySem.W.moved_old e rfl m
  have e1 : vs.size - 1 = xs.length := by omega
  rw [e1] at hP
  exact h v h' tk hP hk'
/-- min(a, b) by a heap -/
theorem call_min_twoH {a b : Value} {Q : Value → Shared → Prop}
    (h : wpAny (model prog w) A.in1 (pyIter (.ref s.heap.objs.size)) (fun it s₂ => ∃ I fp wr G n P St H bt, it = .ref I ∧ WalksS prog w A.in1 I fp wr G n P St ∧ St 0 s₂ ∧ (∀ b ∈ fp, b < s₂.heap.objs.size) ∧ 0 < n ∧
      (∀ b o, H.get? b = some o → b ∉ wr) ∧ (∀ b o, H.get? b = some o → s₂.heap.get? b = some o) ∧ CmpIn prog w A.in1 .Lt H P bt ∧ ∀ v s', P (argBest bt (n - 1)) v → Moved wr G s₂ s' → Q v s') E
      { s with heap := s.heap.push { cls := .type "tuple", data := .seq #[a, b] } }) :
    wpAny (model prog w) A (call (.builtin "min") [a, b]) Q E s := by
  have hname : (toString "min" ++ toString ".loop" : String) = "min.loop" := by decide
  refine call_function_tree F.kind_min F.plain_min F.entry_min (F.args_min2 _ _) ?_
  show wpAny _ A.in1 (Builtin.Builtins.bindParams "min" ["key", "default"] 0 ⟨[], []⟩ >>= _) _ _ s
  refine wpAny_bind (wpAny_of_eq (show Builtin.Builtins.bindParams "min" ["key", "default"] 0 ⟨[], []⟩ = pure [none, none] from rfl) ?_)
  show wpAny _ A.in1 (newTuple [a, b] >>= _) _ _ s
  refine wpAny_bind (wpAny_newObj_type ?_)
  refine wpAny_bind (wpAny_mono h (fun it s₂ h₂ => ?_) fun _ _ e => e)
  obtain ⟨I, fp, wr, G, n, P, St, H, bt, rfl, W, hst, hfp, hn, hw, hkeep, hcmp, hQ⟩ := h₂
  refine wpAny_bind (wpAny_newObj_type ?_)
  have hSf : s₂.heap.objs.size ∉ fp := fun hm => Nat.lt_irrefl _ (hfp _ hm)
  rw [hname]
  refine wpAny_pure ⟨plainId_quiet F.plain_min_loop _, codeAny_min_loop_firstH W H hw bt hcmp s₂.heap.objs.size hSf (fresh_in hkeep) _ hn (fun b o e => Heap.get?_push_of_some _ (hkeep b o e)) (W.frame 0 s₂ _ s₂.toks hst (Nat.le_refl _) fun b _ o e => Heap.get?_push_of_some _ e) (Heap.get?_push_size _ rfl) fun v s' hP hm => ?_⟩
  exact hQ v s' hP (Moved.drop_new (tk := s₂.toks) hm (Nat.le_refl _))
theorem min_two_at {a b : Value} {p q : PyData} {as : List Addr} {Q : Value → Shared → Prop} (hh : A.handled = none) (hr : ReadsAll s.heap [a, b] [p, q] as) (ha : PySem.W.AlikeAll [p, q]) (hu : A.units + 1 + PyData.depthAll [p, q] < cLine)
    (h : ∀ v h' tk, (#[a, b] : Array Value)[argBest (fun i j => PySem.W.dataLt ([p, q].getD i .none) ([p, q].getD j .none)) 1]? = some v → (∀ b o, s.heap.get? b = some o → h'.get? b = some o) → Q v { s with heap := h', toks := tk }) :
    wpAny (model prog w) A (call (.builtin "min") [a, b]) Q E s := by
  have ht : (s.heap.push { cls := .type "tuple", data := .seq #[a, b] }).IsTuple s.heap.objs.size #[a, b] := ⟨_, Heap.get?_push_size _ rfl, rfl, 0, rfl⟩
  have kp : ∀ c o, s.heap.get? c = some o → (s.heap.push { cls := .type "tuple", data := .seq #[a, b] }).get? c = some o := fun c o e => Heap.get?_push_of_some _ e
  refine call_min_twoH (PySem.W.iter_tupleW (A := A.in1) hh ht fun s₂ e W st hfp hw hk => ?_)
  have hr2 : ReadsAll (s.heap.push { cls := .type "tuple", data := .seq #[a, b] }) (#[a, b] : Array Value).toList [p, q] as := ReadsAll.keeps kp hr
  refine ⟨_, _, _, _, _, _, _, _, _, rfl, W, st, hfp, Nat.zero_lt_succ _, hw, hk, PySem.W.cmpIn_lt (s := { s with heap := s.heap.push { cls := .type "tuple", data := .seq #[a, b] } }) (A := A.in1) hr2 ha (by show A.units + 1 + _ < _; exact hu), fun v s' hP m => ?_⟩
  obtain ⟨h', tk, rfl, hk'⟩ := PySem.W.moved_old e rfl m
  exact h v h' tk hP fun c o e => hk' c o (kp c o e)
end
section
variable {X : Cx} {G : Ga} {W : WX} {k : Nat} {g : Gs} {H : Hp} {pins : List (Addr × Obj)} {σ : St} {s : Shared}
theorem minOk_parts {ps : List PyData} (h : minOk ps = true) : PySem.W.AlikeAll ps ∧ PyData.depthAll ps ≤ 60 := by
  simp only [minOk, alikeL, Bool.and_eq_true, List.all_eq_true, decide_eq_true_eq] at h
  refine ⟨⟨fun x hx y hy => h.1.1 x hx y hy, fun x hx e => ?_⟩, h.2⟩
  have := h.1.2 x hx
  subst e
  cases this
/-- the place of the least, on my values -/
theorem best_at {x : D} {xs : List D} {p : PyData} {ps : List PyData} (e : datL (x :: xs) = some (p :: ps)) (i : Nat) (d : D) (h : (x :: xs)[i]? = some d) (hi : i = argBest (fun i j => PySem.W.dataLt ((p :: ps).getD i .none) ((p :: ps).getD j .none)) ps.length) : d = minFold x xs := by
  have len : ∀ {ds : List D} {qs : List PyData}, datL ds = some qs → ds.length = qs.length := by
    intro ds
    induction ds with
    | nil => intro qs h; cases h; rfl
    | cons d ds ih =>
      intro qs h
      simp only [datL] at h
      cases e1 : dat d with
      | none => rw [e1] at h; cases h
      | some p =>
        rw [e1] at h
        obtain ⟨ps', e2, rfl⟩ := Option.map_eq_some_iff.mp h
        exact congrArg Nat.succ (ih e2)
  have get : ∀ {ds : List D} {qs : List PyData} (j : Nat), datL ds = some qs → ∀ d, ds[j]? = some d → dat d = some (qs.getD j .none) := by
    intro ds
    induction ds with
    | nil => intro qs j h d hd; simp at hd
    | cons d ds ih =>
      intro qs j h y hy
      simp only [datL] at h
      cases e1 : dat d with
      | none => rw [e1] at h; cases h
      | some p =>
        rw [e1] at h
        obtain ⟨ps', e2, rfl⟩ := Option.map_eq_some_iff.mp h
        cases j with
        | zero => simp at hy; subst hy; simpa using e1
        | succ j => simpa using ih j e2 y (by simpa using hy)
  have hl := len e
  simp only [List.length_cons, Nat.add_right_cancel_iff] at hl
  have eqf : ∀ kk, kk ≤ xs.length → argBest (fun i j => PySem.W.dataLt ((p :: ps).getD i .none) ((p :: ps).getD j .none)) kk = argBest (fun i j => ltD ((x :: xs).getD i .non) ((x :: xs).getD j .non)) kk ∧ argBest (fun i j => PySem.W.dataLt ((p :: ps).getD i .none) ((p :: ps).getD j .none)) kk ≤ kk := by
    intro kk
    induction kk with
    | zero => intro _; exact ⟨rfl, Nat.le_refl _⟩
    | succ kk ih =>
      intro hk
      obtain ⟨i1, i2⟩ := ih (by omega)
      have a1 : (x :: xs)[kk + 1]? = some ((x :: xs).getD (kk + 1) .non) := by
        rw [List.getD_eq_getElem?_getD]
        rw [List.getElem?_eq_getElem (by simp; omega)] <;> rfl
      have a2 : (x :: xs)[argBest (fun i j => PySem.W.dataLt ((p :: ps).getD i .none) ((p :: ps).getD j .none)) kk]? = some ((x :: xs).getD (argBest (fun i j => PySem.W.dataLt ((p :: ps).getD i .none) ((p :: ps).getD j .none)) kk) .non) := by
        rw [List.getD_eq_getElem?_getD]
        rw [List.getElem?_eq_getElem (by simp only [List.length_cons]; omega)] <;> rfl
      have b1 := get (kk + 1) e _ a1
      have b2 := get _ e _ a2
      have : ltD ((x :: xs).getD (kk + 1) .non) ((x :: xs).getD (argBest (fun i j => PySem.W.dataLt ((p :: ps).getD i .none) ((p :: ps).getD j .none)) kk) .non) = PySem.W.dataLt ((p :: ps).getD (kk + 1) .none) ((p :: ps).getD (argBest (fun i j => PySem.W.dataLt ((p :: ps).getD i .none) ((p :: ps).getD j .none)) kk) .none) := by
        unfold ltD
        rw [b1, b2]
      constructor
      · have c1 : ∀ (f : Nat → Nat → Bool), argBest f (kk + 1) = if f (kk + 1) (argBest f kk) = true then kk + 1 else argBest f kk := fun f => rfl
        rw [c1, c1]
        simp only [← i1, this]
      · have c1 : ∀ (f : Nat → Nat → Bool), argBest f (kk + 1) = if f (kk + 1) (argBest f kk) = true then kk + 1 else argBest f kk := fun f => rfl
        rw [c1]
        split
        · exact Nat.le_refl _
        · omega
  have f := (PySem.W.argBest_fold ltD .non x xs xs.length (Nat.le_refl _)).2
  rw [List.take_length] at f
  obtain ⟨q1, _⟩ := eqf xs.length (Nat.le_refl _)
  rw [← hl, q1] at hi
  rw [← hi] at f
  rw [List.getD_eq_getElem?_getD, h] at f
  exact f
theorem datL_cons {x : D} {xs : List D} {qs : List PyData} (h : datL (x :: xs) = some qs) : ∃ p ps, qs = p :: ps := by
  simp only [datL] at h
  cases e1 : dat x with
  | none => rw [e1] at h; cases h
  | some p =>
    rw [e1] at h
    obtain ⟨ps', e2, rfl⟩ := Option.map_eq_some_iff.mp h
    exact ⟨p, ps', rfl⟩
theorem ok_minD (c : XI X G W k) : CallR X (.builtin "min") (rB G fMinD) := by
  intro pins s σ H xs us Q I r ⟨g, M, ds, rr, R, w, e, q⟩
  have hu := c.room.units
  unfold fMinD at e
  cases e0 : fMin ds with
  | some r0 =>
    rw [e0] at e
    cases e
    exact ok_min c pins s σ H xs us Q I r ⟨g, M, ds, _, R, w, e0, q⟩
  | none =>
    rw [e0] at e
    simp only at e
    split at e
    · rename_i x xs'
      unfold fMinA at e
      cases e1 : datL (x :: xs') with
      | none => rw [e1] at e; cases e
      | some qs =>
        obtain ⟨p, ps, rfl⟩ := datL_cons e1
        rw [e1] at e
        have e : (if minOk (p :: ps) = true then sv (minFold x xs') else none) = some rr := e
        split at e
        · rename_i ok
          cases e
          obtain ⟨k1, k2⟩ := minOk_parts ok
          obtain ⟨v, rfl, h⟩ := vwl1 w
          obtain ⟨a, vs, rfl, q1, r1⟩ := vw_lst h
          rw [← c.K] at q1
          rw [Vals.ref1 r]
          obtain ⟨its, rv, hl, hz⟩ := I.list q1
          obtain ⟨as, rd, _⟩ := Is.readsL c.K I r1 e1 rv
          refine min_list_at (vs := its.toArray) (I.ok.hd c.calm) hl.isList (by simpa using rd) k1 (by omega) fun u h' tk hP hk => ?_
          have hP : its[argBest (fun i j => PySem.W.dataLt ((p :: ps).getD i .none) ((p :: ps).getD j .none)) ps.length]? = some u := by simpa using hP
          obtain ⟨hlt, _⟩ := List.getElem?_eq_some_iff.mp hP
          have hlv : its.length = vs.length := rv.length.symm
          have hld : (x :: xs').length = vs.length := r1.length
          have hd : (x :: xs')[argBest (fun i j => PySem.W.dataLt ((p :: ps).getD i .none) ((p :: ps).getD j .none)) ps.length]? = some ((x :: xs')[argBest (fun i j => PySem.W.dataLt ((p :: ps).getD i .none) ((p :: ps).getD j .none)) ps.length]'(by rw [hld, ← hlv]; exact hlt)) := List.getElem?_eq_getElem _
          obtain ⟨v, hv, iv⟩ := r1.get hd
          obtain ⟨u', hu', ru⟩ := rv.get hv
          rw [hP] at hu'
          cases hu'
          have := best_at e1 _ _ hd rfl
          rw [this] at iv
          exact ⟨v, H, I.kept (t' := tk) hk, ru, q _ _ (Grow.refl _) iv⟩
        · cases e
    · rename_i x y
      split at e
      · rename_i hst
        rw [Bool.and_eq_true] at hst
        unfold fMinA at e
        cases e1 : datL [x, y] with
        | none => rw [e1] at e; cases e
        | some qs =>
          rw [e1] at e
          have e : (if minOk qs = true then sv (minFold x [y]) else none) = some rr := e
          split at e
          · rename_i ok
            cases e
            obtain ⟨k1, k2⟩ := minOk_parts ok
            obtain ⟨v, v', rfl, h1, h2⟩ := vwl2 w
            obtain ⟨u, u', rfl, ru, ru'⟩ := vals2 r
            obtain ⟨p, p', rfl, d1, d2⟩ : ∃ p p', qs = [p, p'] ∧ dat x = some p ∧ dat y = some p' := by
              simp only [datL] at e1
              cases ex : dat x with
              | none => rw [ex] at e1; cases e1
              | some p =>
                cases ey : dat y with
                | none => rw [ex, ey] at e1; cases e1
                | some p' => rw [ex, ey] at e1; cases e1; exact ⟨p, p', rfl, rfl, rfl⟩
            obtain ⟨as, rd, _⟩ := Vw.reads c.K I h1 d1 ru
            obtain ⟨as', rd', _⟩ := Vw.reads c.K I h2 d2 ru'
            refine min_two_at (I.ok.hd c.calm) (.cons rd (.cons rd' .nil)) k1 (by omega) fun z h' tk hP hk => ?_
            have I2 := I.kept (t' := tk) hk
            have b := best_at (i := argBest (fun i j => PySem.W.dataLt ([p, p'].getD i .none) ([p, p'].getD j .none)) 1) e1
            have le : argBest (fun i j => PySem.W.dataLt ([p, p'].getD i .none) ([p, p'].getD j .none)) 1 = 0 ∨ argBest (fun i j => PySem.W.dataLt ([p, p'].getD i .none) ([p, p'].getD j .none)) 1 = 1 := by
              have c1 : ∀ (f : Nat → Nat → Bool), argBest f 1 = if f 1 0 = true then 1 else 0 := fun f => rfl
              rw [c1]
              split
              · exact .inr rfl
              · exact .inl rfl
            rcases le with le | le
            · rw [le] at b hP
              have ez : z = u := by simpa using hP.symm
              subst ez
              have := b x rfl le.symm
              exact ⟨v, H, I2, ru, q _ _ (Grow.refl _) (by rw [← this]; exact vw_still hst.1 h1)⟩
            · rw [le] at b hP
              have ez : z = u' := by simpa using hP.symm
              subst ez
              have := b y rfl le.symm
              exact ⟨v', H, I2, ru', q _ _ (Grow.refl _) (by rw [← this]; exact vw_still hst.2 h2)⟩
          · cases e
      · cases e
    · cases e
/-! join -/
theorem strsD_vals {g : Gs} {H : Hp} : ∀ {ds : List D} {ss : List (List Nat)} {vs : List V}, strsD ds = some ss → IsL G g H ds vs → vs = (ss.map fun a => (⟨a.toArray⟩ : Str)).map V.str
  | [], ss, vs, e, h => by
    cases e
    match vs, h with
    | [], _ => rfl
    | _ :: _, h => simp only [IsL] at h
  | .str a :: ds, ss, vs, e, h => by
    obtain ⟨ss', e2, rfl⟩ := Option.map_eq_some_iff.mp (show (strsD ds).map (a :: ·) = some ss from e)
    match vs, h with
    | [], h => simp only [IsL] at h
    | v :: vs, h =>
      simp only [IsL, Is] at h
      rw [h.1.1, strsD_vals e2 h.2] <;> rfl
theorem joinG_tl (S : List Nat) : ∀ l : List (List Nat), TL.joinL S l = joinG S l := by
  intro l
  induction l with
  | nil => rfl
  | cons p l ih =>
    cases l with
    | nil => rfl
    | cons q r =>
      show p ++ (S ++ TL.joinL S (q :: r)) = p ++ (S ++ joinG S (q :: r))
      rw [ih]
theorem ok_join (c : XJ X G W) : MtR X "str.join" (rM G fJoin) := by
  intro pins s σ H x xs v us Q I rx rs ⟨g, M, d, ds, r, R, vx, vl, e, q⟩
  have fin : ∀ {a : List Nat} {es : List D} {ss : List (List Nat)}, d = .str a → strsD es = some ss → joinOk a ss = true → r = .val (.str (joinG a ss)) → (∀ {p : Addr} {vs : List V}, True) →
      (∃ (p : Addr) (vs : List V), xs = [.ref p] ∧ (SqL X.K H p vs ∨ SqT X.K H p vs) ∧ IsL G g H es vs) → wpAny (model X.prog X.w) X.A (call (.builtin "str.join") (v :: us)) (EP X pins σ Q) X.xe s := by
    intro a es ss hd hs hok hr _ ⟨p, vs, hx, hq, il⟩
    subst hd hr hx
    obtain ⟨rfl, hl⟩ := vw_str vx
    have ev := strsD_vals hs il
    subst ev
    have ok : (ss.map (·.length)).sum + ss.length * a.length ≤ 1000000 := by simpa only [joinOk, decide_eq_true_eq] using hok
    have e1 : (ss.map fun b => (⟨b.toArray⟩ : Str)).map (·.length) = ss.map (·.length) := by
      rw [List.map_map]
      exact List.map_congr_left fun b _ => by simp [PySem.Str.length]
    have e2 : (⟨a.toArray⟩ : Str).length = a.length := by simp [PySem.Str.length]
    refine mt_join pins s σ H _ _ v us Q I rx rs ⟨_, p, ss.map fun b => (⟨b.toArray⟩ : Str), rfl, rfl, hq, ?_, ?_⟩
    · rw [e1, List.length_map, e2]
      omega
    · refine q _ _ (Grow.refl _) ?_
      show Is G g H (.str (joinG a ss)) _
      simp only [Is]
      refine ⟨?_, ?_⟩
      · have := SX.join_S a ss
        rw [joinG_tl] at this
        exact congrArg V.str this
      · have len : ∀ l : List (List Nat), (joinG a l).length ≤ (l.map (·.length)).sum + l.length * a.length := by
          intro l
          induction l with
          | nil => simp [joinG]
          | cons p l ih =>
            cases l with
            | nil => simp [joinG]
            | cons q r =>
              simp only [joinG, List.length_append, List.map_cons, List.sum_cons, List.length_cons, Nat.add_mul] at ih ⊢
              omega
        have := len ss
        rw [sizeLine_eq]
        omega
  unfold fJoin at e
  split at e
  · rename_i a es
    cases e1 : strsD es with
    | none => rw [e1] at e; cases e
    | some ss =>
      rw [e1] at e
      have e : (if joinOk a ss = true then sv (.str (joinG a ss)) else none) = some r := e
      split at e
      · rename_i ok
        cases e
        obtain ⟨y, rfl, vy⟩ := vwl1 vl
        obtain ⟨p, vs, rfl, q1, r1⟩ := vw_lst vy
        rw [← c.K] at q1
        exact fin rfl e1 ok rfl trivial ⟨p, vs, rfl, .inl q1, r1⟩
      · cases e
  · rename_i a es
    cases e1 : strsD es with
    | none => rw [e1] at e; cases e
    | some ss =>
      rw [e1] at e
      have e : (if joinOk a ss = true then sv (.str (joinG a ss)) else none) = some r := e
      split at e
      · rename_i ok
        cases e
        obtain ⟨y, rfl, vy⟩ := vwl1 vl
        obtain ⟨p, vs, rfl, q1, r1⟩ := vw_tup vy
        have t1 := q1.t
        rw [← c.K] at t1
        exact fin rfl e1 ok rfl trivial ⟨p, vs, rfl, .inr t1, r1⟩
      · cases e
  · cases e
/-! one of two -/
theorem PEI.or2 {e : Expr} {m m1 m2 : EM SV} (h1 : PEI X G W e m1) (h2 : PEI X G W e m2) (hd : ∀ e M, m e M = m1 e M ∨ m e M = m2 e M) : PEI X G W e m := by
  refine ⟨fun pins s σ H Q I ⟨g, e0, M, R, h⟩ => ?_⟩
  rcases hd e0 M with q | q
  · exact h1.run pins s σ H Q I ⟨g, e0, M, R, by rw [← q]; exact h⟩
  · exact h2.run pins s σ H Q I ⟨g, e0, M, R, by rw [← q]; exact h⟩
theorem now_pure (p : PV) (e : PI.Env) (M : MH) : (∃ d, p.now e M = .ok d e M) ∨ p.now e M = .stuck := by
  cases p with
  | v d =>
    cases d with
    | obj n =>
      simp only [PV.now]
      cases M[n]? with
      | none => exact .inr rfl
      | some o => exact .inl ⟨_, rfl⟩
    | _ => exact .inl ⟨_, rfl⟩
  | sl i =>
    simp only [PV.now]
    cases e.getD i none with
    | none => exact .inr rfl
    | some s => exact .inl ⟨_, rfl⟩
theorem eM2_or (f1 f2 : D → List D → Option SV) (a : EM PV) (es : EM (List PV)) (e : PI.Env) (M : MH) : eM2 f1 f2 a es e M = eM .list f1 a es e M ∨ eM2 f1 f2 a es e M = eM .tuple f2 a es e M := by
  unfold eM2 eM
  simp only [bind_ap]
  cases a e M with
  | err _ _ _ => exact .inl rfl
  | stuck => exact .inl rfl
  | ok p e1 M1 =>
    simp only [bind_ok, bind_ap]
    rcases now_pure p e1 M1 with ⟨d, q⟩ | q
    · rw [q]
      simp only [bind_ok]
      by_cases h : Ty.list.has d = true
      · rw [if_pos h, if_pos h]
        exact .inl rfl
      · rw [if_neg h, if_neg h]
        by_cases h2 : Ty.tuple.has d = true
        · rw [if_pos h2]
          exact .inr rfl
        · rw [if_neg h2]
          exact .inl rfl
    · rw [q]
      exact .inl rfl
theorem okM2 {e : Expr} {f1 f2 : D → List D → Option SV} {a : EM PV} {es : EM (List PV)} (h1 : PEI X G W e (eM .list f1 a es)) (h2 : PEI X G W e (eM .tuple f2 a es)) : PEI X G W e (eM2 f1 f2 a es) := h1.or2 h2 (eM2_or f1 f2 a es)
end
end PI
/-! PISndK: sums from a start, name op= e, xs[::-1]. -/
namespace PI
open PySem PySem.Spec PyProof.Rows L2
end PI
/-! PISndL: sorted(t) of a tuple. -/
namespace PI
open PySem PySem.Spec PyProof.Rows L2
end PI
set_option maxHeartbeats 1000000
/-! PISndM: raise C(), isinstance of the handled exception. -/
namespace PI
open PySem PySem.Spec PyProof.Rows L2
theorem XJ.toXJ {X : Cx} {G : Ga} {W : WX} (c : XJ X G W) : XJ X G W := c
section
variable {X : Cx} {G : Ga} {W : WX} {k : Nat} {g : Gs} {H : Hp} {pins : List (Addr × Obj)} {σ : St} {s : Shared} {pos : Pos}
theorem pmk_own0 {C : Addr} {bmB : List Value} {B newId initId : String} {x : Str} {p pos : Pos} (F : ExcBaseFacts B newId initId bmB) (q : PySem.W.excIn X.K C bmB newId = true) (gC : X.mg x = some (.ref C)) (kC : PySem.W.keepIn X.K (.ref C) = true) (r : Raises X (.ref C)) (hg : Gl X x)
    (hdb : (x == ("__debug__" : Str)) = false := by decide) : L2N.PMk X (.Call (.Name x p) [] [] pos) (fun _ H Q => Q (.ref C) none H) := by
  intro pins s σ H Q I h
  refine wpAny_Call_Name_kw (ld_glob I hg gC ?_ hdb)
  refine PySem.W.callWith_K0 I.kIn kC ?_
  show wpAny _ _ (call (.ref C) []) _ _ _
  obtain ⟨bm, N, nm, qn, bs, hdct, sn, sub, ab, col, dd, k0, k1, k2, k3, k5, mN, hC, hN, hni, T⟩ := exc_obj I.kIn q
  refine wpAny_call_exc_subT F T hC hN hni (fun h' e hm => ?_) (by show 0 ≤ sizeLine; exact Nat.zero_le _)
  exact L2N.mk_of I hm r h (I.hok.gone hm.new)
abbrev veB : List Value := [.type "ValueError", .type "Exception", .type "BaseException", .type "object"]
/-- what must be known of an exception class -/
structure ExcR (K : PySem.W.Frag) (C : Addr) : Prop where
  q : PySem.W.excIn K C veB "ValueError.__new__" = true
  kp : PySem.W.keepIn K (.ref C) = true
  sb : PySem.W.subIn K (.ref C) (.type "BaseException") = some true
  ty : PySem.W.typeIn K (.ref C) = some (.type "type")
theorem okRaise (c : XI X G W k) (n : Nat) {x : Str} {p pos' : Pos} (E : ExcR X.K (G.ca n)) (gC : X.mg x = some (.ref (G.ca n))) (hg : Gl X x := by rfl)
    (hdb : (x == ("__debug__" : Str)) = false := by decide) : PSI X G W (.Raise (some (.Call (.Name x p) [] [] pos')) none pos) (sRaise n) :=
  PS.imp (L2N.ps_raise c.calm c.tk (pmk_own0 PySem.F.excBase_ValueError E.q gC E.kp (raises_own E.sb E.ty) hg hdb)) fun D σ H ⟨g, e0, M, R, h⟩ => h σ H g (.ref (G.ca n)) none (Next.refl _ _) R ⟨rfl, rfl⟩
end
/-! ### isinstance of the handled exception -/
/-- the class value that a class stands for -/
def clsV (G : Ga) : D → Value
  | .cls n => .ref (G.ca n)
  | .ty n => .type n
  | _ => .none
/-- what is known of the classes below n: isinstance asks them rightly, and answers by mro -/
structure XcOk (G : Ga) (n : Nat) (mro : Nat → List D) (ks : List D) : Prop where
  ex : ∀ c, c < n → ExcC G.K (G.ca c)
  kit : ∀ c, c < n → ∀ k ∈ ks, k.isCls = true → PySem.W.kitOne G.K (.ref (G.ca c)) (clsV G k) = some ((mro c).any (isK k))
/-- the exception that is handled: p's object, of x's class, its dict d -/
structure HotX (G : Ga) (x : Xn) (p : Addr × Obj) (d : Option Addr) : Prop where
  z : L2N.Zn (.ref (G.ca x.c)) d p.2
  f : ∃ vs, p.2.data = .fields vs
def gaX (G : Ga) (x : Xn) (p : Addr × Obj) (d : Option Addr) : Ga := { G with xs := fun a c dd => a = p.1 ∧ c = x.c ∧ dd = d }
instance {G : Ga} {x : Xn} {p : Addr × Obj} {d : Option Addr} [h : PgT G] : PgT (gaX G x p d) := ⟨h.h⟩
theorem gaX_eq {G : Ga} {x : Xn} {p : Addr × Obj} {d : Option Addr} : GaEq false G (gaX G x p d) := ⟨rfl, rfl, rfl, rfl, fun h => nomatch h⟩
theorem gaX_eq' {G : Ga} {x : Xn} {p : Addr × Obj} {d : Option Addr} : GaEq false (gaX G x p d) G := ⟨rfl, rfl, rfl, rfl, fun h => nomatch h⟩
theorem isK_eq {a b : D} (h : isK a b = true) : a = b ∧ a.isCls = true := by
  unfold isK at h
  split at h
  · exact ⟨congrArg D.cls (eq_of_beq h), rfl⟩
  · exact ⟨congrArg D.ty (eq_of_beq h), rfl⟩
  · cases h
section
variable {X : Cx} {G : Ga} {W : WX} {k : Nat} {x : Xn} {p : Addr × Obj} {dX : Option Addr} {n : Nat} {mro : Nat → List D} {ks : List D}
theorem ok_isX (hK : X.K = G.K) (hx : XcOk G n mro ks) (hp : p ∈ X.pn) (hh : HotX G x p dX) : CallR X (.builtin "isinstance") (rB (gaX G x p dX) (fIsX2 mro n ks)) := by
  intro pins s σ H xs us Q I r ⟨g, M, ds, rr, R, w, e, q⟩
  unfold fIsX2 at e
  split at e
  · rename_i c fs kk
    by_cases hc : (okK ks kk && decide (c < n)) = true
    · rw [if_pos hc] at e
      obtain ⟨hk, hlt⟩ := Bool.and_eq_true_iff.mp hc
      have hlt := of_decide_eq_true hlt
      obtain ⟨v1, v2, rfl, w1, w2⟩ := vwl2 w
      obtain ⟨u1, u2, rfl, r1, r2⟩ := vals2 r
      -- the exception
      have i1 : (v1 = .ref p.1 ∧ c = x.c) ∧ (dX = none ∨ ∃ d vfs, dX = some d ∧ H d = some (.xd vfs)) := by
        rcases w1 with w1 | ⟨a, o, _, _, z⟩
        · simp only [Is] at w1
          obtain ⟨a, dd, rfl, ⟨ea, ec, ed⟩, r⟩ := w1
          refine ⟨⟨by rw [ea], ec⟩, ?_⟩
          rw [← ed]
          rcases r with ⟨r, _⟩ | ⟨d, vfs, e2, e3, _⟩
          · exact .inl r
          · exact .inr ⟨d, vfs, e2, e3⟩
        · cases o <;> cases z
      obtain ⟨⟨rfl, rfl⟩, hd⟩ := i1
      cases (show u1 = Value.ref p.1 from r1)
      obtain ⟨hget, _⟩ := I.pin p (List.mem_append.mpr (.inl hp))
      obtain ⟨vs, hv⟩ := hh.f
      have J : ∃ odX, PySem.W.InstAt s.heap p.1 p.2 (G.ca x.c) odX := by
        obtain ⟨h1, h2, _⟩ := hh.z
        have nc : PySem.W.notCls p.2 := by unfold PySem.W.notCls; rw [hv] <;> rfl
        rcases hd with hd | ⟨dd, vfs, hd, hxd⟩
        · exact ⟨none, hget, h1, nc, by rw [h2, hd] <;> trivial⟩
        · have ok := I.hok dd _ hxd
          obtain ⟨od, ho⟩ : ∃ o, s.heap.get? dd = some o := by
            obtain ⟨mA, ⟨o, es, ep, ho, _⟩, _⟩ := ok
            exact ⟨o, ho⟩
          exact ⟨some od, hget, h1, nc, by rw [h2, hd]; exact ho⟩
      obtain ⟨odX, J⟩ := J
      have C := hx.ex x.c hlt
      have Z := PySem.W.kitx_exc (x := p.1) (ox := p.2) (od := odX) (by obtain ⟨cd, hc, _⟩ := PySem.W.any_some C.hd; rw [hc] <;> rfl) C.hg C.hk C.hs C.ha C.hn C.ht C.hm
      have KI : G.K.In s.heap := by rw [← hK]; exact I.kIn
      have one : ∀ (d : D) (v : V) (u : Value), okK ks d = true → d.isCls = true → Vw (gaX G x p dX) g H d v → RelV v u → u = clsV G d ∧ PySem.W.kitOne G.K (.ref (G.ca x.c)) u = some ((mro x.c).any (isK d)) := fun d v u ok hd iv rv => by
        have ee : ∃ kq ∈ ks, kq = d := by
          have ok2 : (ks.any fun k => isK k d) = true := by
            cases d <;> first | exact ok | cases hd
          obtain ⟨kq, hm, he⟩ := List.any_eq_true.mp ok2
          exact ⟨kq, hm, (isK_eq he).1⟩
        obtain ⟨_, hm, rfl⟩ := ee
        have ku := hx.kit x.c hlt _ hm hd
        rename_i d
        have eu : u = clsV G d := by
          cases d with
          | cls n' =>
            rcases iv with iv | ⟨a, o, _, _, z⟩
            · cases (show v = V.ref (G.ca n') from iv)
              exact rv
            · cases o <;> cases z
          | ty n' =>
            rcases iv with iv | ⟨a, o, _, _, z⟩
            · cases (show v = V.ty n' from iv)
              exact rv
            · cases o <;> cases z
          | _ => cases hd
        exact ⟨eu, by rw [eu]; exact ku⟩
      unfold fIsX at e
      simp only at e
      cases kk with
      | cls n' =>
        cases e
        obtain ⟨_, e2⟩ := one _ _ _ hk rfl w2 r2
        exact PySem.W.kia_one Z KI J e2 (fun z => nomatch z) fun tk => ⟨.bl _, H, I.tok tk, rfl, q _ _ (Grow.refl _) rfl⟩
      | ty n' =>
        cases e
        obtain ⟨_, e2⟩ := one _ _ _ hk rfl w2 r2
        exact PySem.W.kia_one Z KI J e2 (fun z => nomatch z) fun tk => ⟨.bl _, H, I.tok tk, rfl, q _ _ (Grow.refl _) rfl⟩
      | tup l =>
        have e : (if l.all D.isCls = true then some (l.any fun k => (mro x.c).any (isK k)) else none).map (fun b => SV.val (.bl b)) = some rr := e
        by_cases hl : l.all D.isCls = true
        · rw [if_pos hl] at e
          cases e
          obtain ⟨tp, vs', rfl, q1, r1'⟩ := vw_tup w2
          cases (show u2 = Value.ref tp from r2)
          have t1 := q1.t
          have t1' : SqT X.K H tp vs' := by rw [hK]; exact t1
          obtain ⟨its, rv, ⟨ob, ho, hoc, no, hod⟩, hz⟩ := I.tuple t1'
          obtain ⟨oc, od, dt, sl⟩ := ob
          simp only at hoc hod
          subst hoc hod
          have any : ∀ (l : List D) (vs' : List V) (its : List Value), okK ks (.tup l) = true → l.all D.isCls = true → IsL (gaX G x p dX) g H l vs' → Vals vs' its → PySem.W.kitAny G.K (.ref (G.ca x.c)) its = some (l.any fun k => (mro x.c).any (isK k)) := by
            intro l
            induction l with
            | nil =>
              intro vs' its _ _ hi hv
              cases vs' with
              | nil => cases hv; rfl
              | cons _ _ => simp only [IsL] at hi
            | cons d l ih =>
              intro vs' its ho ha hi hv
              cases vs' with
              | nil => simp only [IsL] at hi
              | cons v vs' =>
                cases hv with
                | cons rv1 rv2 =>
                  simp only [IsL] at hi
                  rw [List.all_cons, Bool.and_eq_true] at ha
                  have ho' : (d :: l).all (fun d => ks.any fun k => isK k d) = true := ho
                  rw [List.all_cons, Bool.and_eq_true] at ho'
                  have okd : okK ks d = true := by
                    cases d <;> first | exact ho'.1 | exact absurd ha.1 Bool.false_ne_true
                  obtain ⟨_, e2⟩ := one _ _ _ okd ha.1 (.inl hi.1) rv1
                  have e3 := ih _ _ ho'.2 ha.2 hi.2 rv2
                  rw [List.any_cons]
                  cases hb : (mro x.c).any (isK d) with
                  | true =>
                    rw [hb] at e2
                    show (match PySem.W.kitOne G.K (.ref (G.ca x.c)) _ with | some true => some true | some false => _ | none => none) = _
                    rw [e2]
                    rfl
                  | false =>
                    rw [hb] at e2
                    show (match PySem.W.kitOne G.K (.ref (G.ca x.c)) _ with | some true => some true | some false => _ | none => none) = _
                    rw [e2]
                    exact e3
          have e2 := any l vs' its hk hl r1' rv
          exact PySem.W.kia_tup Z KI J ho e2 (fun z => nomatch z) fun tk => ⟨.bl _, H, I.tok tk, rfl, q _ _ (Grow.refl _) rfl⟩
        · rw [if_neg hl] at e
          cases e
      | _ => cases e
    · rw [if_neg hc] at e
      cases e
  · cases e
end
end PI
set_option maxHeartbeats 1000000
/-! PISndN: a def that is called in an except suite; try: body, except C as e: return f(e). -/
namespace PI
open PySem PySem.Spec PyProof.Rows L2
/-- the exception's fields as they stand -/
def XfH (G : Ga) (g : Gs) (H : Hp) (x : Xn) : Option Addr → Prop
  | none => x.fs = []
  | some dd => ∃ vfs, H dd = some (.xd vfs) ∧ IsFx G g H x.fs vfs
/-- a def of one parameter, called with the handled exception: it gives a value -/
structure FnX (P : Program) (w : World) (G : Ga) (mg : Str → Option Value) (base : Heap) (k : Nat) (f : Addr) (fd : FuncData) (pn : Str) (n : Nat) (hw : Xn → Option D) : Prop where
  run : ∀ (A : Around) (outer : List PySem.Env) (s : Shared) (H : Hp) (args : Args) (p : Addr × Obj) (dX : Option Addr) (x : Xn) (g : Gs) (d : D) (Q : VK) (E : XK), L2H.RoomH k A → GdOk G.pg A → L2H.Hot1 A p → L2H.PinOk outer H s p → HotX G x p dX → x.c < n → XfH G g H x dX → limF false 0 x.fs = true → hw x = some d →
    Env0 P w G.K mg base A outer s H → BindsTo s fd args [(pn, .ref p.1)] → (∀ v H', Grow H H' → (∀ g', Is G g' H' d v) → Q v H') →
    codeAny (model P w) A (.call (.ref f) args) (CR (L2N.CX P w) outer P w H s Q E) s
theorem hotOf_mk {N : Nat} {b : EM Fl} {x : Xn} {d : D} (h : hotOf (mkF 1 N b) x = some d) : d.okR = true ∧ ∃ e', b (startE N [.exn x.c x.fs]) [] = .ok (.ret (.val d)) e' [] ∨ (d = .non ∧ b (startE N [.exn x.c x.fs]) [] = .ok .nx e' []) := by
  unfold hotOf mkF at h
  rw [if_pos (show ([D.exn x.c x.fs] : List D).length = 1 from rfl)] at h
  cases hb : b (startE N [.exn x.c x.fs]) [] with
  | stuck => rw [hb] at h; cases h
  | err xx e m => rw [hb] at h; cases h
  | ok fl e m =>
    rw [hb] at h
    cases fl with
    | nx =>
      cases m with
      | nil =>
        have h : (if (D.non).okR = true then some D.non else none) = some d := h
        by_cases ho : (D.non).okR = true
        · rw [if_pos ho] at h
          cases h
          exact ⟨ho, e, .inr ⟨rfl, rfl⟩⟩
        · rw [if_neg ho] at h; cases h
      | cons _ _ => cases h
    | bk => cases h
    | ct => cases h
    | ret sv =>
      cases sv with
      | own o => cases h
      | val d' =>
        cases m with
        | nil =>
          have h : (if d'.okR = true then some d' else none) = some d := h
          by_cases ho : d'.okR = true
          · rw [if_pos ho] at h
            cases h
            exact ⟨ho, e, .inl rfl⟩
          · rw [if_neg ho] at h; cases h
        | cons _ _ => cases h
section
variable {P : Program} {w : World} {G : Ga} {mg : Str → Option Value} {base : Heap} {xn qual : Str} {params : Arguments} {body : List Stmt} {scope : Scope} {dvs : List V} {kws : List (Str × V)} {f : Addr} {fd : FuncData} {k n : Nat}
theorem FnX.of {N : List Str} {pn : Str} {b : EM Fl} (F : FunD G.K xn qual params body scope dvs kws f fd) (S : FnScope N [pn] scope)
    (hb : ∀ (x : Xn) (p : Addr × Obj) (dX : Option Addr) (cdv : Value) (A : Around) (outer : List PySem.Env) (s : Shared) (H : Hp) (E : XK), HotX G x p dX → x.c < n → XJ (L2H.cxH (L2N.CX P w) P w G.K mg base N qual scope f cdv A outer s H E p) (gaX G x p dX) (fun cls d _ H => E cls d H) →
      PSsI (L2H.cxH (L2N.CX P w) P w G.K mg base N qual scope f cdv A outer s H E p) (gaX G x p dX) (fun cls d _ H => E cls d H) body b) :
    FnX P w G mg base (k + 1) f fd pn n (hotOf (mkF 1 N.length b)) := by
  obtain ⟨oc, od, dV, kV, doc, pm, an, cdv, ct, osl, rfl, lk, hcd, _, _⟩ := F.ex
  refine ⟨fun A outer s H args p dX x g0 d Q E hr hgd hot hpin hx hlt hxf hlim hw e0 hbd hQ => ?_⟩
  obtain ⟨hR, eb, hbr⟩ := hotOf_mk hw
  have KX : G.K.In s.heap := e0.mod.kin.keeps fun b o e => (e0.bs b o e).1
  have lim : s.heap.NoLimit := e0.mod.nolimit.keeps fun b o e => (e0.bs b o e).1
  have hkind : ∀ y ∈ ([pn].zip [Value.ref p.1]), scope.names.lookup y.1 = some .local ∨ (scope.names.lookup y.1 = some .cell ∧ ((cellsFrom (s.heap.objs.size + 1) scope.names []).lookup y.1).isSome = true) := fun ⟨n, v⟩ hy => by
    rcases S.par n (List.of_mem_zip hy).1 with q | q
    · exact .inl q
    · exact .inr ⟨q, PySem.W.cellsFrom_some _ _ _ (.inl q)⟩
  refine codeAny_call_function hr.depth (KX _ _ lk) rfl S.co S.gen rfl (PySem.W.codeRec_of KX hcd) (hbd _ _ _ _ ?_)
  refine wpAny_newFunctionEnv_cells S.kind hkind fun env he s1 xx => ?_
  subst he
  refine ⟨lim.keeps xx.toInCall.keep, codeAny_func ?_⟩
  have r : Vals [V.ref p.1] [Value.ref p.1] := .cons rfl .nil
  have I : Inv (L2H.cxH (L2N.CX P w) P w G.K mg base N qual scope f cdv A outer s H E p) [] (L2.start N [V.ref p.1]) H s1 := L2H.inv_startH S hpin e0 rfl r xx
  have hN : [pn].length ≤ N.length := by have := congrArg List.length S.pre; rw [List.length_take] at this; omega
  have hr2 := hr.deeper (envOfC qual scope s.heap.objs.size f cdv)
  have c : XJ (L2H.cxH (L2N.CX P w) P w G.K mg base N qual scope f cdv A outer s H E p) (gaX G x p dX) (fun cls d _ H => E cls d H) :=
    ⟨rfl, S.nd, hr2.mono (Nat.zero_le _), guards_deeper hgd, L2N.takes_of rfl rfl rfl rfl, passes_of rfl⟩
  have body_ok := hb x p dX cdv A outer s H E hx hlt c
  have R0 : HRel (gaX G x p dX) ⟨fun a => ∃ o, H a = some o, []⟩ H [] := ⟨fun a h => h, rfl, .nil, fun a h => (nomatch h), fun n a o h1 h2 => by simp at h2⟩
  have q : IsL (gaX G x p dX) ⟨fun a => ∃ o, H a = some o, []⟩ H [.exn x.c x.fs] [V.ref p.1] := by
    simp only [IsL, Is]
    refine ⟨⟨p.1, dX, rfl, ⟨rfl, rfl, rfl⟩, ?_⟩, trivial⟩
    cases dX with
    | none => exact .inl ⟨rfl, hxf⟩
    | some dd =>
      obtain ⟨vfs, e1, e2⟩ := hxf
      exact .inr ⟨dd, vfs, rfl, e1, e2.okR gaX_eq hlim⟩
  have RR := rel_start (N := N) R0 q (by simpa using hN)
  have fin : tS (gaX G x p dX) (fun cls d _ H => E cls d H) b { nx := fun _ H' => Q .non H', rt := Q } (L2.start N [V.ref p.1]) H := by
    refine ⟨_, startE N.length [.exn x.c x.fs], [], RR, ?_⟩
    have grow : ∀ {g' : Gs} {H' : Hp}, Next ⟨fun a => ∃ o, H a = some o, []⟩ H g' H' → Grow H H' := fun N' a o e => (N'.kZ a ⟨o, e⟩).trans e
    rcases hbr with hbr | ⟨rfl, hbr⟩
    · rw [hbr]
      intro v H' g' N' R' sv
      have sv : Is (gaX G x p dX) g' H' d v := sv
      exact hQ v H' (grow N') fun g2 => sv.okR gaX_eq' hR
    · rw [hbr]
      intro σ' H' g' N' R'
      exact hQ .non H' (grow N') fun g2 => rfl
  refine wpAny_mono (body_ok.run [] s1 (L2.start N [V.ref p.1]) H _ I fin) (fun fl s' hs => ?_) fun e s' hs => hs
  have fin2 : ∀ {σ' : St} {H' : Hp} {v : V} {u : Value}, Inv (L2H.cxH (L2N.CX P w) P w G.K mg base N qual scope f cdv A outer s H E p) [] σ' H' s' → RelV v u → Q v H' → CE outer P w H s Q u s' :=
    fun {σ' H' v u} J rv q => ⟨v, H', J.os, J.bare, J.base, J.hok, rv, q⟩
  cases fl with
  | ret u =>
    obtain ⟨v, σ', H', J, rv, q⟩ := hs
    exact fin2 J rv q
  | next =>
    obtain ⟨σ', H', J, q⟩ := hs
    exact fin2 (v := V.non) (u := Value.none) J rfl q
  | brk =>
    obtain ⟨_, _, _, q⟩ := hs
    exact False.elim q
  | cont =>
    obtain ⟨_, _, _, q⟩ := hs
    exact False.elim q
end
end PI
set_option maxHeartbeats 1000000
/-! PISndO: try: body, except C as e: return f(e). -/
namespace PI
open PySem PySem.Spec PyProof.Rows L2
section
variable {X : Cx} {G : Ga} {W : WX} {k n : Nat} {f CA : Addr} {fd : FuncData} {pn nm cx fx : Str} {hw : Xn → Option D} {sub : Nat → Bool} {i : Nat}
/-- the suite's wish -/
def teX (G : Ga) (n : Nat) (hw : Xn → Option D) (i : Nat) (a : Addr) (cls : Value) (d : Option Addr) : TE := fun σ H Q => σ[i]? = some (some (.ref a)) ∧ ∃ (x : Xn) (g : Gs) (r : D), cls = .ref (G.ca x.c) ∧ x.c < n ∧ XfH G g H x d ∧ limF false 0 x.fs = true ∧ hw x = some r ∧ ∀ v H', Grow H H' → (∀ g', Is G g' H' r v) → Q v H'
theorem suiteX (c : XI X G W k) (F : FnX X.prog X.w G X.mg X.base k f fd pn n hw) (hi : X.N[i]? = some nm) (hln : Loc X.env.scope nm) (hm : X.mg fx = some (.ref f)) (hk : PySem.W.keepIn X.K (.ref f) = true) (hb : Binds X.K fd [pn] [])
    (hg : Gl X fx) (hdb : (fx == ("__debug__" : Str)) = false) (hdn : (nm == ("__debug__" : Str)) = false) (hcd : (nm == ("__classdict__" : Str)) = false) {p1 p2 p3 p4 : Pos}
    (he : starEach [.Name nm p2] X.env = (false, eval (.Name nm p2) X.env) :: starEach [] X.env) (hpl : (backTo p3 (starEach [] X.env)).any (·.1) = false) (a : Addr) (oe : Obj) (cls : Value) (d : Option Addr) (pns : List (Addr × Obj)) (hz : L2N.Zn cls d oe) (hf : ∃ vs, oe.data = .fields vs) :
    PSs (X.suite a ((a, oe) :: pns)) [.Return (some (.Call (.Name fx p1) [.Name nm p2] [] p3)) p4] (tRet (teX G n hw i a cls d)) := by
  refine pss_one (ps_ret ⟨fun pins s σ H Q I h => ?_⟩)
  obtain ⟨hσ, x, g0, r, rfl, hlt, hxf, hlim, hw', hQ⟩ := h
  have hv : Vis X.env.scope nm := by rcases hln with k | k; exact .inl k; exact .inr (.inl k)
  refine wpAny_Call_Name_kw (ld_glob (X := X.suite a ((a, oe) :: pns)) I hg hm ?_ hdb)
  have ha : PA (X.suite a ((a, oe) :: pns)) [.Name nm p2] (tCons (tVar i) tNil) := pa_cons (pe_var (X := X.suite a ((a, oe) :: pns)) hi hv hdn hcd) pa_nil
  refine PySem.W.callWith_K (h₀ := X.base) I.ok.mod.kin hk (thn (ha.run p3 pins s σ H (fun vs H1 => vs = [V.ref a] ∧ H1 = H) I ⟨_, hσ, rfl, rfl⟩) fun us s1 hh => ?_) he hpl
  obtain ⟨vs, H1, I1, r1, ev, eH⟩ := hh
  subst ev eH
  refine ⟨I1.kIn, ?_⟩
  rw [Vals.ref1 r1]
  have b := hb s1 [.ref a] I1.kIn (by rfl)
  rw [List.append_nil] at b
  have P1 := I1.pin (a, oe) (List.mem_append_left _ List.mem_cons_self)
  have hpin : L2H.PinOk X.stack H1 s1 (a, oe) := ⟨P1.1, P1.2.1, fun hm => (List.mem_cons.mp (I1.stkSub a hm)).elim P1.2.2.1 P1.2.2.2.1, P1.2.2.2.2⟩
  obtain ⟨vf, hvf⟩ := hf
  have hot : L2H.Hot1 (X.A.mark (some (.ref a))) (a, oe) := ⟨rfl, vf, hvf, hz.2.2 vf hvf⟩
  have hx : HotX G x (a, oe) d := ⟨hz, ⟨vf, hvf⟩⟩
  have hr : L2H.RoomH k (X.A.mark (some (.ref a))) := ⟨c.rm.dp, c.rm.un⟩
  have hgd : GdOk G.pg (X.A.mark (some (.ref a))) := c.gd
  have e0 : Env0 X.prog X.w G.K X.mg X.base (X.A.mark (some (.ref a))) X.stack s1 H1 := by
    have := I1.env0
    rw [← c.K]
    exact this
  refine wpAny_call (codeAny_mono (F.run _ X.stack s1 H1 ⟨[.ref a], []⟩ (a, oe) d x g0 r Q (fun _ _ _ => False) hr hgd hot hpin hx hlt hxf hlim hw' e0 b hQ) fun r s' hq => ?_)
  cases r with
  | error e =>
    obtain ⟨_, _, _, _, _, _, _, _, _, _, _, _, z⟩ := hq
    exact z
  | ok fl =>
    cases fl with
    | ret u => exact I1.after hq
    | next => exact False.elim hq
    | brk => exact False.elim hq
    | cont => exact False.elim hq
theorem XI.tr (c : XI X G W k) {pns : List (Addr × Obj)} {xe : Value → Shared → Prop} {W' : WX} (tk : L2N.Takes (X.tr pns xe) W') (po : PassesOwn (model X.prog X.w) X.A X.env xe) : XI (X.tr pns xe) G W' k :=
  ⟨⟨c.K, c.nd, c.room, c.gd, tk, po⟩, c.rm, c.calm, c.hd⟩
theorem okTryW (c : XI X G W k) (i : Nat) (F : FnX X.prog X.w G X.mg X.base k f fd pn n hw) (hm : X.mg fx = some (.ref f)) (hk : PySem.W.keepIn X.K (.ref f) = true) (hb1 : Binds X.K fd [pn] [])
    (hcN : X.mg cx = some (.ref CA)) (hsub : ∀ j, j < n → PySem.W.exmOne X.K (.ref (G.ca j)) (.ref CA) = some (sub j)) {m : EM Fl} {body : List Stmt} {np p1 p2 p3 p4 pos' pos : Pos}
    (hb : ∀ (pns : List (Addr × Obj)) (xe : Value → Shared → Prop) (W' : WX), XI (X.tr pns xe) G W' k → PSsI (X.tr pns xe) G W' body m)
    (hs : X.stack = X.env :: X.outer := by rfl) (hf : X.env.frame = some X.env.locals := by rfl) (hi : X.N[i]? = some nm := by rfl) (hln : X.env.kindOf nm = some .local := by rfl)
    (hgc : Gl X cx := by rfl) (hdc : (cx == ("__debug__" : Str)) = false := by decide) (hg : Gl X fx := by rfl) (hdb : (fx == ("__debug__" : Str)) = false := by decide) (hdn : (nm == ("__debug__" : Str)) = false := by decide) (hcd : (nm == ("__classdict__" : Str)) = false := by decide)
    (he : starEach [.Name nm p2] X.env = (false, eval (.Name nm p2) X.env) :: starEach [] X.env := by rfl) (hpl : (backTo p3 (starEach [] X.env)).any (·.1) = false := by rfl) :
    PSI X G W (.Try body [.ExceptHandler (some (.Name cx np)) (some nm) [.Return (some (.Call (.Name fx p1) [.Name nm p2] [] p3)) p4] pos'] [] [] pos) (sTryW n i sub hw m) := by
  refine ⟨fun pins s σ H D I ⟨g, e0, M, R, q⟩ => ?_⟩
  have tb := L2N.ps_try_as (pos := pos) (x := cx) (n := nm) (c := .ref CA) (i := i) (np := np) (pos' := pos') (tb := fun W' => tS G W' m) (ts := fun a cls d => tRet (teX G n hw i a cls d)) (Wout := W) hs hf c.nd hi hln ⟨hgc, hdc, .inl hcN⟩ c.tk
    (fun W' pns xe tk po => hb pns xe W' (c.tr tk po))
    (fun a oe cls d pns hz hd => suiteX c F hi (.inl hln) hm hk hb1 hg hdb hdn hcd (p1 := p1) (p2 := p2) (p3 := p3) (p4 := p4) he hpl a oe cls d pns hz hd)
  refine tb.run pins s σ H D I ⟨g, e0, M, R, ?_⟩
  have q : PostS G W g H D (tryK n i sub hw (m e0 M)) := q
  cases hr : m e0 M with
  | stuck => rw [hr] at q; exact q
  | ok fl e1 M1 =>
    rw [hr] at q
    cases fl <;> exact q
  | err x e1 M1 =>
    rw [hr] at q
    have q : PostS G W g H D (if x.c < n then (if sub x.c = true then (if (limF false 0 x.fs && decide (i < e1.length)) = true then (match hw x with
      | some r => .ok (.ret (.val r)) e1 M1
      | none => .stuck) else .stuck) else .err x e1 M1) else .stuck) := q
    by_cases hlt : x.c < n
    · rw [if_pos hlt] at q
      intro σ' H' g' cls d N' R' xi
      obtain ⟨ec, xd⟩ := xi
      subst ec
      refine ⟨sub x.c, hsub x.c hlt, fun hsb a ha => ?_, fun hsb => ?_⟩
      · rw [if_pos hsb] at q
        by_cases hfe : (limF false 0 x.fs && decide (i < e1.length)) = true
        case neg => rw [if_neg hfe] at q; exact False.elim q
        rw [if_pos hfe] at q
        obtain ⟨hf1, hf2⟩ := Bool.and_eq_true_iff.mp hfe
        have hil : i < e1.length := of_decide_eq_true hf2
        cases hh : hw x with
        | none => rw [hh] at q; exact False.elim q
        | some r =>
          rw [hh] at q
          refine ⟨?_, x, g', r, rfl, hlt, ?_, hf1, hh, fun v H2 w is => ?_⟩
          · have il : i < σ'.length := by
              rw [← R'.el]
              exact hil
            rw [List.getElem?_set_self il]
          · cases d with
            | none => exact xd
            | some dd => exact xd
          · exact q v H2 g' (N'.trans (R'.toHRel.grows w)) (R'.grow w).toHRel (is g')
      · rw [if_neg (by rw [hsb]; exact Bool.false_ne_true)] at q
        exact q σ' H' g' _ d N' R' ⟨rfl, xd⟩
    · rw [if_neg hlt] at q
      exact False.elim q
end
end PI
/-! PISndP: split, defs known to be called in suites. -/
namespace PI
open PySem PySem.Spec PyProof.Rows L2
section
variable {X : Cx} {G : Ga} {W : WX} {k : Nat} {g : Gs} {H : Hp} {pins : List (Addr × Obj)} {σ : St} {s : Shared}
theorem isL_strs {g : Gs} {H : Hp} : ∀ {ss : List (List Nat)}, (ss.all fun p => decide (p.length ≤ 1000000)) = true → IsL G g H (ss.map D.str) ((ss.map fun a => (⟨a.toArray⟩ : Str)).map V.str)
  | [], _ => by simp only [List.map_nil, IsL]
  | a :: ss, h => by
    rw [List.all_cons, Bool.and_eq_true] at h
    simp only [List.map_cons, IsL, Is]
    exact ⟨⟨trivial, by rw [sizeLine_eq]; have := of_decide_eq_true h.1; omega⟩, isL_strs h.2⟩
theorem ok_split : MtR X "str.split" (rM G fSplit) := by
  intro pins s σ H x xs v us Q I rx rs ⟨g, M, d, ds, r, R, vx, vl, e, q⟩
  unfold fSplit at e
  split at e
  · rename_i a b
    split at e
    · rename_i h
      rw [Bool.and_eq_true, Bool.and_eq_true, Bool.and_eq_true] at h
      obtain ⟨⟨h1, h2⟩, h3, h4⟩ := h
      have h3 := of_decide_eq_true h3
      cases e
      obtain ⟨rfl, hl⟩ := vw_str vx
      obtain ⟨v1, rfl, w1⟩ := vwl1 vl
      obtain ⟨rfl, hl2⟩ := vw_str w1
      have hb : b ≠ [] := by
        intro z
        subst z
        cases h1
      refine mt_split pins s σ H _ _ v us Q I rx rs ⟨_, _, rfl, rfl, ?_, ?_, fun p hp => ?_⟩
      · cases b with
        | nil => exact absurd rfl hb
        | cons _ _ => rfl
      · show (⟨a.toArray⟩ : Str).length + 2 ≤ sizeLine
        rw [sizeLine_eq]
        show a.toArray.size + 2 ≤ _
        rw [List.size_toArray]
        omega
      · refine q (.ref p) _ (Grow.upd hp) ⟨p, rfl, hp, _, upd_same, ?_⟩
        rw [show Txt.split ⟨a.toArray⟩ ⟨b.toArray⟩ = (TL.spl b 0 [] a).map fun l => (⟨l.toArray⟩ : Str) from SX.split_S hb h2]
        exact isL_strs h4
    · cases e
  · cases e
end
/-- a def of the text that is called with the handled exception -/
structure KnX (P : Program) (w : World) (G : Ga) (mg : Str → Option Value) (base : Heap) (k : Nat) (x : Str) (pn : Str) (n : Nat) (hw : Xn → Option D) (f : Addr) (fd : FuncData) : Prop where
  m : mg x = some (.ref f)
  kp : PySem.W.keepIn G.K (.ref f) = true
  fn : FnX P w G mg base k f fd pn n hw
  bd : Binds G.K fd [pn] []
theorem FnX.mono {P : Program} {w : World} {G : Ga} {mg : Str → Option Value} {base : Heap} {j k : Nat} {f : Addr} {fd : FuncData} {pn : Str} {n : Nat} {hw : Xn → Option D} (F : FnX P w G mg base j f fd pn n hw) (h : j ≤ k) : FnX P w G mg base k f fd pn n hw :=
  ⟨fun A outer s H args p dX x g d Q E hr => F.run A outer s H args p dX x g d Q E (hr.mono h)⟩
/-- the classes that may be raised, and the class that the clause names -/
structure SubOk (G : Ga) (n : Nat) (CA : Addr) (sub : Nat → Bool) : Prop where
  ok : ∀ j, j < n → PySem.W.exmOne G.K (.ref (G.ca j)) (.ref CA) = some (sub j)
section
variable {X : Cx} {G : Ga} {W : WX} {k j n : Nat} {f CA : Addr} {fd : FuncData} {pn nm cx fx : Str} {hw : Xn → Option D} {sub : Nat → Bool}
theorem okTryB (c : XI X G W k) (i : Nat) (h : KnX X.prog X.w G X.mg X.base j fx pn n hw f fd) (hcN : X.mg cx = some (.ref CA)) (hsub : SubOk G n CA sub) {m : EM Fl} {body : List Stmt} {np p1 p2 p3 p4 pos' pos : Pos}
    (hb : ∀ (pns : List (Addr × Obj)) (xe : Value → Shared → Prop) (W' : WX), XI (X.tr pns xe) G W' k → PSsI (X.tr pns xe) G W' body m) (hj : j ≤ k := by omega)
    (hs : X.stack = X.env :: X.outer := by rfl) (hf : X.env.frame = some X.env.locals := by rfl) (hi : X.N[i]? = some nm := by rfl) (hln : X.env.kindOf nm = some .local := by rfl)
    (hgc : Gl X cx := by rfl) (hdc : (cx == ("__debug__" : Str)) = false := by decide) (hg : Gl X fx := by rfl) (hdb : (fx == ("__debug__" : Str)) = false := by decide) (hdn : (nm == ("__debug__" : Str)) = false := by decide) (hcd : (nm == ("__classdict__" : Str)) = false := by decide)
    (he : starEach [.Name nm p2] X.env = (false, eval (.Name nm p2) X.env) :: starEach [] X.env := by rfl) (hpl : (backTo p3 (starEach [] X.env)).any (·.1) = false := by rfl) :
    PSI X G W (.Try body [.ExceptHandler (some (.Name cx np)) (some nm) [.Return (some (.Call (.Name fx p1) [.Name nm p2] [] p3)) p4] pos'] [] [] pos) (sTryW n i sub hw m) :=
  okTryW c i (h.fn.mono hj) h.m (by rw [c.K]; exact h.kp) (by rw [c.K]; exact h.bd) hcN (fun j hj => by rw [c.K]; exact hsub.ok j hj) hb hs hf hi hln hgc hdc hg hdb hdn hcd he hpl
end
end PI
set_option maxHeartbeats 2000000
/-! PISndQ: times, isinstance of several types, repr of all data, int of a truth. -/
namespace PI
open PySem PySem.Spec PyProof.Rows L2
section
variable {X : Cx} {G : Ga} {W : WX} {k : Nat} {g : Gs} {H : Hp} {M : MH} {pins : List (Addr × Obj)} {σ : St} {s : Shared}
/-! isinstance(x, (T, ..)) -/
/-! repr of any data -/
/-- what stands at the first place: a dict -/
def SmOk (K : PySem.W.Frag) : Prop := ∃ o, K.lookup sysModules = some o ∧ o.cls = .type "dict"
theorem ok_reprA [PgT G] (c : XJ X G W) (sm : SmOk G.K) : CallR X (.builtin "repr") (rB G fReprA) := by
  intro pins s σ H xs us Q I r ⟨g, M, ds, rr, R, w, e, q⟩
  have hu := c.room.units
  unfold fReprA at e
  split at e
  · rename_i d
    obtain ⟨v, rfl, h⟩ := vwl1 w
    obtain ⟨u, rfl, r1⟩ := vals1 r
    have noL : ¬ LstAt s := fun ⟨o, h1, h2⟩ => by
      obtain ⟨o2, k1, k2⟩ := sm
      rw [← c.K] at k1
      have := I.kIn _ _ k1
      rw [h1] at this
      cases this
      have k3 : (Value.type "list") = .type "dict" := h2.symm.trans k2
      injection k3 with k4
      exact absurd k4 (by decide)
    have main : ∀ {p : PyData}, dat d = some p → reprOkA p = true → rr = .val (.str p.shown.cps.toList) → wpAny (model X.prog X.w) X.A (call (.builtin "repr") [u]) (EP X pins σ Q) X.xe s := by
      intro p h1 ok er
      subst er
      simp only [reprOkA, Bool.and_eq_true, decide_eq_true_eq] at ok
      obtain ⟨as, rd, hn⟩ := Vw.reads c.K I h h1 r1
      have fin : ∀ (H' : Hp), Grow H H' → Q (.str p.shown) H' := fun H' w => q _ _ w ⟨rfl, reprIs ok.2⟩
      cases rd with
      | list a1 a2 a3 a4 => exact repr_of_reads' (Reads.list a1 a2 a3 a4) ok.1.1 (fun _ hm => noL (hn.2 hm)) (c.gd.1 PgT.h) (by omega) (fun _ _ e => e) (fun h' u tk hk => ⟨.str _, H, I.kept hk, ⟨u, rfl⟩, fin _ (Grow.refl _)⟩) (by rw [sizeLine_eq]; omega)
      | tuple a1 a2 a3 a4 => exact repr_of_reads' (Reads.tuple a1 a2 a3 a4) ok.1.1 (fun _ hm => noL (hn.2 hm)) (c.gd.1 PgT.h) (by omega) (fun _ _ e => e) (fun h' u tk hk => ⟨.str _, H, I.kept hk, ⟨u, rfl⟩, fin _ (Grow.refl _)⟩) (by rw [sizeLine_eq]; omega)
      | dict a1 a2 a3 a4 a5 => exact repr_of_reads' (Reads.dict a1 a2 a3 a4 a5) ok.1.1 (fun _ hm => noL (hn.2 hm)) (c.gd.1 PgT.h) (by omega) (fun _ _ e => e) (fun h' u tk hk => ⟨.str _, H, I.kept hk, ⟨u, rfl⟩, fin _ (Grow.refl _)⟩) (by rw [sizeLine_eq]; omega)
      | none => exact PySem.P.repr_of_none ⟨.str _, H, I.tok _, ⟨_, rfl⟩, fin _ (Grow.refl _)⟩
      | bool b => exact PySem.P.repr_of_bool ⟨.str _, H, I.tok _, ⟨_, rfl⟩, fin _ (Grow.refl _)⟩
      | int i t => exact PySem.P.repr_of_int (by have := ok.1.1; simpa [PyData.showable] using this) ⟨.str _, H, I.tok _, ⟨_, rfl⟩, fin _ (Grow.refl _)⟩
      | str x t => exact PySem.P.repr_of_str ⟨.str _, H, I.tok _, ⟨_, rfl⟩, fin _ (Grow.refl _)⟩ (by rw [sizeLine_eq]; have := ok.2; simp only [PyData.shown] at this; omega)
    split at e
    · cases e
    · cases h1 : dat d with
      | none => rw [h1] at e; cases e
      | some p =>
        rw [h1] at e
        have e : (if reprOkA p = true then sv (.str p.shown.cps.toList) else none) = some rr := e
        split at e
        · rename_i ok
          cases e
          exact main h1 ok rfl
        · cases e
  · cases e
theorem ok_intB : CallR X (.type "int") (rB G fIntB) := by
  intro pins s σ H xs us Q I r ⟨g, M, ds, rr, R, w, e, q⟩
  unfold fIntB at e
  split at e
  · cases e
    obtain ⟨v, rfl, h⟩ := vwl1 w
    cases vw_bl h
    exact call_int1 pins s σ H _ us Q I r (.inr ⟨_, rfl, q _ _ (Grow.refl _) rfl⟩)
  · cases e
    obtain ⟨v, rfl, h⟩ := vwl1 w
    cases vw_int h
    exact call_int1 pins s σ H _ us Q I r (.inl ⟨_, rfl, q _ _ (Grow.refl _) rfl⟩)
  · cases e
end
end PI
set_option maxHeartbeats 2000000
/-! PISndR: list(range(n)), calls of values, tables, pairs of names. -/
namespace PI
open PySem PySem.Spec PyProof.Rows L2
section
variable {X : Cx} {G : Ga} {W : WX} {k : Nat} {g : Gs} {H : Hp} {M : MH} {pins : List (Addr × Obj)} {σ : St} {s : Shared} {pos : Pos}
/-! calls of values -/
/-- a def that is called by its value -/
def KnV (P : Program) (w : World) (G : Ga) (mg : Str → Option Value) (base : Heap) (k n : Nat) (i : Nat) (F : FT) : Prop :=
  ∃ (fd : FuncData) (ps : List Str), PySem.W.keepIn G.K (.ref (G.fa i)) = true ∧ FnI P w G mg base k (G.fa i) fd ps F ∧ Bd G fd ps [] ∧ ps.length = n
theorem KnV.mono {P : Program} {w : World} {mg : Str → Option Value} {base : Heap} {j k n i : Nat} {F : FT} (h : KnV P w G mg base j n i F) (l : j ≤ k) : KnV P w G mg base k n i F := by
  obtain ⟨fd, ps, h1, h2, h3⟩ := h
  exact ⟨fd, ps, h1, h2.mono l, h3⟩
/-! tables -/
theorem vw_cls {c : Nat} {v : V} (h : Vw G g H (.cls c) v) : v = .ref (G.ca c) := by
  rcases h with h | ⟨a, o, rfl, q, e⟩
  · exact h
  · cases o <;> cases e
end
end PI
set_option maxHeartbeats 2000000
/-! PISndS: pairs of names, dicts of one pair. -/
namespace PI
open PySem PySem.Spec PyProof.Rows L2
section
variable {X : Cx} {G : Ga} {W : WX} {k : Nat} {g : Gs} {H : Hp} {M : MH} {pins : List (Addr × Obj)} {σ : St} {s : Shared} {pos : Pos}
/-- {n: x} -/
theorem okDicN {n : Int} {m : Nat} {x : Str} {p1 p2 : Pos} (i : Nat) (hN : X.N[i]? = some x := by rfl) (hv : Vis X.env.scope x := by first | exact Or.inl rfl | exact Or.inr (Or.inl rfl) | exact Or.inr (Or.inr rfl)) (hd : (x == ("__debug__" : Str)) = false := by decide)
    (hcd : (x == ("__classdict__" : Str)) = false := by decide) : PEI X G W (.Dict [some (.Constant (.int n) m p1)] [.Name x p2] pos) (eDicN n i) :=
  PE.imp (pe_disp (pps_cons pe_int (pe_var (X := X) hN hv hd hcd) pps_nil) rfl rfl (by simp) (by simp)) fun σ H Q ⟨g, e, M, R, h⟩ p hp => by
    unfold eDicN dicN at h
    cases q : e.getD i none with
    | none => rw [q] at h; exact False.elim h
    | some sv =>
      rw [q] at h
      cases sv with
      | own o => exact False.elim h
      | val d =>
        obtain ⟨v, ev, iv⟩ := R.sl i d (getD_some q)
        have w : Grow H (upd H p (.dK [(.inl n, v)])) := Grow.upd hp
        refine ⟨v, ev, upd_same, [(.inl n, v)], rfl, by simp, ?_⟩
        have ee : upd (upd H p (.dK [])) p (.dK (mergeK [] [(Sum.inl n, v)])) = upd H p (.dK [(.inl n, v)]) := by rw [upd_upd'] <;> rfl
        rw [ee]
        exact h (.ref p) _ g (R.toHRel.grows w) (R.grow w) (NewSV.sv (r := .own (.dic [(.int n, d)])) R w ⟨p, rfl, hp, .inl ⟨_, upd_same, by simp only [IsK, Is, kV]; exact ⟨trivial, iv.next (R.toHRel.grows w), trivial⟩⟩⟩)
end
end PI
/-! PISndU: making instances, calling their methods. -/
namespace PI
open PySem PySem.Spec PyProof.Rows L2
theorem Grow.trans {H H1 H2 : Hp} (a : Grow H H1) (b : Grow H1 H2) : Grow H H2 := fun x o h => b x o (a x o h)
section
variable {G : Ga} {g g' : Gs} {H H' : Hp} {M M' : MH} {c : Nat} {x dx : Addr} {o : MO}
/-- with a new instance -/
def hMake (G : Ga) (H : Hp) (c : Nat) (x dx : Addr) : Hp := upd (upd H dx (.own x)) x (.ins (G.ca c) dx [])
def gMake (g : Gs) (H : Hp) (x : Addr) : Gs := ⟨fun a => (∃ o, H a = some o) ∧ a ∉ g.μ ++ [x], g.μ ++ [x]⟩
theorem hMake_grow (nx : H x = none) (nd : H dx = none) (ne : dx ≠ x) : Grow H (hMake G H c x dx) := (Grow.upd nd).trans (Grow.upd (by rw [upd_ne (Ne.symm ne)]; exact nx))
theorem hrel_make (R : HRel G g H M) (nx : H x = none) (nd : H dx = none) (ne : dx ≠ x) : HRel G (gMake g (hMake G H c x dx) x) (hMake G H c x dx) (M ++ [.ins c []]) := by
  have w := hMake_grow (G := G) (c := c) nx nd ne
  have xm : x ∉ g.μ := fun h => by obtain ⟨u, q⟩ := R.mu h; rw [nx] at q; cases q
  refine ⟨fun a h => h.1, by simp [gMake, R.len], ?_, fun a h z => z.2 h, fun n a u h1 h2 => ?_⟩
  · show (g.μ ++ [x]).Nodup
    rw [List.nodup_append]
    exact ⟨R.nd, by simp, fun a ha b hb e => by
      simp only [List.mem_singleton] at hb
      exact xm (hb ▸ e ▸ ha)⟩
  · have h1 : (g.μ ++ [x])[n]? = some a := h1
    by_cases hn : n < M.length
    · rw [List.getElem?_append_left (by rw [R.len]; exact hn)] at h1
      rw [List.getElem?_append_left hn] at h2
      have q := R.ob n a u h1 h2
      obtain ⟨v, e⟩ := q.some
      exact q.nextI ⟨⟨[x], rfl⟩, fun b v h _ => w b v h⟩ (by rw [w a v e, e])
    · rw [List.getElem?_append_right (by rw [R.len]; omega), R.len] at h1
      rw [List.getElem?_append_right (by omega)] at h2
      cases hk : n - M.length with
      | zero =>
        rw [hk] at h1 h2
        cases h1
        cases h2
        exact ⟨dx, [], upd_same, by simp only [IsFl]⟩
      | succ k => rw [hk] at h2; simp at h2
theorem mk_next (R : HRel G g H M) (nx : H x = none) (nd : H dx = none) (ne : dx ≠ x) (N : Next (gMake g (hMake G H c x dx) x) (hMake G H c x dx) g' H') {g2 : Gs} (hz : g2.Z = (gCall g H).Z) (hm : ∃ l, g2.μ = g.μ ++ l) : Next (gCall g H) H g2 H' := by
  have w := hMake_grow (G := G) (c := c) nx nd ne
  refine ⟨hz, hm, fun a z => ?_, fun a u h n => N.kI a u (w a u h) n⟩
  obtain ⟨⟨u, e⟩, m⟩ := z
  have zz : (gMake g (hMake G H c x dx) x).Z a := ⟨⟨u, w a u e⟩, fun h => by
    rcases List.mem_append.mp h with h | h
    · exact m h
    · simp only [List.mem_singleton] at h
      rw [h, nx] at e
      cases e⟩
  rw [N.kZ a zz, w a u e, e]
theorem mk_z (nx : H x = none) (nd : H dx = none) (ne : dx ≠ x) (N : Next (gMake g (hMake G H c x dx) x) (hMake G H c x dx) g' H') {a : Addr} (z : (gCall g H).Z a) : g'.Z a := by
  have w := hMake_grow (G := G) (c := c) nx nd ne
  obtain ⟨⟨u, e⟩, m⟩ := z
  rw [N.Z]
  exact ⟨⟨u, w a u e⟩, fun h => by
    rcases List.mem_append.mp h with h | h
    · exact m h
    · simp only [List.mem_singleton] at h
      rw [h, nx] at e
      cases e⟩
theorem mk_mu (R : HRel G g H M) (N : Next (gMake g (hMake G H c x dx) x) (hMake G H c x dx) g' H') (R' : HRel G g' H' (M ++ [o])) : g'.μ = g.μ ++ [x] := by
  obtain ⟨l, e⟩ := N.μ
  have e : g'.μ = (g.μ ++ [x]) ++ l := e
  have h1 := R'.len
  have h2 := R.len
  rw [e] at h1
  simp only [List.length_append, List.length_cons, List.length_nil] at h1
  have : l = [] := List.eq_nil_of_length_eq_zero (by omega)
  rw [e, this, List.append_nil]
/-- what was made is let go of the shared objects -/
theorem mk_relI (R : HRel G g H M) (nx : H x = none) (nd : H dx = none) (ne : dx ≠ x) (N : Next (gMake g (hMake G H c x dx) x) (hMake G H c x dx) g' H') (R' : HRel G g' H' (M ++ [o])) : HRel G ⟨(gCall g H).Z, g.μ⟩ H' M := by
  have em := mk_mu R N R'
  have w := hMake_grow (G := G) (c := c) nx nd ne
  refine ⟨fun a z => R'.ZH a (mk_z nx nd ne N z), R.len, R.nd, fun a m z => z.2 m, fun n a u h1 h2 => ?_⟩
  have hn : n < M.length := (List.getElem?_eq_some_iff.mp h2).1
  have q := R'.ob n a u (by rw [em, List.getElem?_append_left (by rw [R.len]; exact hn)]; exact h1) (by rw [List.getElem?_append_left hn]; exact h2)
  exact q.turn (x := true) (b := g.μ.length) (GaEq.refl _ _) (fun j hj => by rw [em, List.getElem?_append_left hj]) ((R.ob n a u h1 h2).lim true (.inl rfl))
theorem mk_own (R : HRel G g H M) (nx : H x = none) (N : Next (gMake g (hMake G H c x dx) x) (hMake G H c x dx) g' H') (R' : HRel G g' H' (M ++ [o])) (l : o.lim true M.length = true) : SVIs G ⟨(gCall g H).Z, g.μ⟩ H' [] [] (.ref x) (.own o) := by
  have em := mk_mu R N R'
  have q := R'.ob M.length x o (by rw [em, List.getElem?_append_right (by rw [R.len]; omega), R.len]; simp) (by rw [List.getElem?_append_right (Nat.le_refl _)]; simp)
  rw [← R.len] at l
  refine ⟨x, rfl, q.turn (x := true) (b := g.μ.length) (GaEq.refl _ _) (fun j hj => by rw [em, List.getElem?_append_left hj]) l, fun z => ?_, fun m => ?_, fun i u h => by simp at h⟩
  · obtain ⟨⟨u, e⟩, _⟩ := z
    rw [nx] at e
    cases e
  · obtain ⟨u, e⟩ := R.mu m
    rw [nx] at e
    cases e
end
section
variable {G : Ga} {H : Hp} {n c : Nat} {sem : FT} {vs : List V} {Q : VK} {E : XK} {x dx : Addr}
/-- the __init__'s promise from the wish of who makes -/
theorem spI_mkI (h : SpI G n (mkI c sem) vs H Q E) (nx : H x = none) (nd : H dx = none) (ne : dx ≠ x) : SpI G (n + 1) sem (.ref x :: vs) (hMake G H c x dx) (fun v H2 => v = .non ∧ Q (.ref x) H2) E := by
  obtain ⟨g, ds, M, R, hZ, q, hn, post⟩ := h
  have w := hMake_grow (G := G) (c := c) nx nd ne
  have back : ∀ {g' : Gs} {H' : Hp} {o : MO}, Next (gMake g (hMake G H c x dx) x) (hMake G H c x dx) g' H' → HRel G g' H' (M ++ [o]) → Next g H ⟨g.Z, g.μ⟩ H' ∧ HRel G ⟨g.Z, g.μ⟩ H' M := fun {g' H' o} N R' => by
    have N1 := mk_next R nx nd ne N (g2 := ⟨(gCall g H).Z, g.μ⟩) rfl ⟨[], by simp⟩
    exact ⟨next_home (g' := ⟨(gCall g H).Z, g.μ⟩) R N1, hrel_home (g' := ⟨(gCall g H).Z, g.μ⟩) R N1 (mk_relI R nx nd ne N R')⟩
  refine ⟨gMake g (hMake G H c x dx) x, .obj M.length :: ds, M ++ [.ins c []], hrel_make R nx nd ne, fun a h m => ⟨h, m⟩, ?_, by rw [List.length_cons, hn], ?_⟩
  · simp only [IsL, Is]
    refine ⟨⟨x, rfl, ?_⟩, q.nextI ⟨⟨[x], rfl⟩, fun b v h _ => w b v h⟩⟩
    show (g.μ ++ [x])[M.length]? = some x
    rw [← R.len]; simp
  · unfold mkI at post
    cases hs : sem (.obj M.length :: ds) (M ++ [.ins c []]) with
    | stuck => rw [hs] at post; exact post
    | err xx M' =>
      rw [hs] at post
      simp only at post
      cases hf : finI M M' with
      | none => rw [hf] at post; exact False.elim post
      | some o =>
        rw [hf] at post
        have e := finI_some hf
        subst e
        by_cases hl : limF true M.length xx.fs = true
        · rw [if_pos hl] at post
          intro H' g' cls d N R' xi
          have b := back N R'
          refine post H' ⟨g.Z, g.μ⟩ cls d b.1 b.2 ⟨xi.1, ?_⟩
          have em := mk_mu R N R'
          have xi2 := xi.2
          cases d with
          | none => exact xi2
          | some dd =>
            obtain ⟨vfs, e1, e2⟩ := xi2
            exact ⟨vfs, e1, e2.turn (x := true) (b := g.μ.length) (GaEq.refl _ _) (fun j hj => by rw [em, List.getElem?_append_left hj]) (by rw [R.len]; exact hl)⟩
        · rw [if_neg hl] at post
          exact False.elim post
    | ok sv M' =>
      rw [hs] at post
      cases sv with
      | own o => exact False.elim post
      | val d =>
        cases d with
        | non =>
          simp only at post
          cases hf : finI M M' with
          | none => rw [hf] at post; exact False.elim post
          | some o =>
            rw [hf] at post
            have e := finI_some hf
            subst e
            by_cases hl : o.lim true M.length = true
            · simp only [hl] at post
              intro v H' g' N R' r
              have r : v = .non := r
              have b := back N R'
              refine ⟨r, post (.ref x) H' ⟨g.Z, g.μ⟩ b.1 b.2 ?_⟩
              obtain ⟨a, e1, q1, z1, m1, _⟩ := mk_own R nx N R' hl
              cases e1
              refine ⟨x, rfl, q1.nextI (g' := ⟨g.Z, g.μ⟩) ⟨⟨[], by simp⟩, fun b v h _ => h⟩ rfl, fun z => ?_, m1, fun i u h => by simp at h⟩
              obtain ⟨u, e⟩ := R.ZH x z
              rw [nx] at e
              cases e
            · simp only [hl] at post
              exact False.elim post
        | _ => exact False.elim post
end
theorem guards_make {p : Bool} {A : Around} {C : Addr} {us : List Value} {kw : List (Str × Value)} (h : GdOk p A) : GdOk p (A.under (.builtin "type.__call__" ⟨.ref C :: us, kw⟩)) := by
  first | exact h | (simp [Around.under, pushGuards, Code.guards, Code.isGuard]; exact h)
/-- something that is called: what it gives -/
def CalX (X : Cx) (G : Ga) (W : WX) (f : Addr) (n : Nat) (sem : FT) (B : Shared → Args → List Value → Prop) : Prop :=
  ∀ {pins : List (Addr × Obj)} {σ : St} {H : Hp} {s : Shared} {Q : VK} {args : Args} {us : List Value} {vs : List V}, Inv X pins σ H s → B s args us → Vals vs us → SpI G n sem vs H Q (fun cls d H' => W cls d σ H') →
    wpAny (model X.prog X.w) X.A (call (.ref f) args.pos args.kw) (EP X pins σ Q) X.xe s
section
variable {X : Cx} {G : Ga} {W : WX} {k : Nat} {f : Addr} {fd : FuncData} {ps : List Str} {sem : FT}
/-- how the arguments of a making bind, the new instance ahead of them -/
def BMk (K : PySem.W.Frag) (fd : FuncData) (ps : List Str) : Shared → Args → List Value → Prop := fun s args us => ∀ (x : Addr) (s' : Shared), (∀ a o, s.heap.get? a = some o → s'.heap.get? a = some o) → BindsTo s' fd ⟨.ref x :: args.pos, args.kw⟩ (ps.zip (.ref x :: us))
theorem calMk {ci : Nat} {mk : Nat → FT → FT} (hmk : ∀ {n : Nat} {H : Hp} {vs : List V} {Q : VK} {E : XK} {x dx : Addr}, SpI G n (mk ci sem) vs H Q E → H x = none → H dx = none → dx ≠ x → SpI G (n + 1) sem (.ref x :: vs) (hMake G H ci x dx) (fun v H2 => v = .non ∧ Q (.ref x) H2) E)
    (M : Mk X.K (G.ca ci) f) (F : FnI X.prog X.w G X.mg X.base k f fd ps sem) (c : XI X G W (k + 1)) {n : Nat} (hn : ps.length = n + 1) : CalX X G W (G.ca ci) n (mk ci sem) (BMk X.K fd ps) := fun {pins σ H s Q args us vs} I hb r h => by
  have nx : H (s.heap.objs.size + 1) = none := I.hok.fresh (Nat.le_succ _)
  have nd : H s.heap.objs.size = none := I.hok.fresh (Nat.le_refl _)
  have ne : s.heap.objs.size ≠ s.heap.objs.size + 1 := Nat.ne_of_lt (Nat.lt_succ_self _)
  have hq := hmk h nx nd ne
  have I2 := Inv.made (C := G.ca ci) I
  have r2 : Vals (V.ref (s.heap.objs.size + 1) :: vs) (Value.ref (s.heap.objs.size + 1) :: us) := .cons rfl r
  rw [← hn] at hq
  have e0 := I2.env0
  rw [c.K] at e0
  have hr := c.roomC
  have b := hb (s.heap.objs.size + 1) { s with heap := (s.heap.push PySem.W.emptyDict).push (PySem.W.instObj (G.ca ci) s.heap.objs.size) } (fun a o q => Heap.get?_push_of_some _ (Heap.get?_push_of_some _ q))
  refine wpAny_call (make_map (f := f) I.kIn M.makes M.init (beq_iff_eq.mp M.fn) (codeAny_mono (F.run _ X.stack _ _ ⟨Value.ref (s.heap.objs.size + 1) :: args.pos, args.kw⟩ _ _ _ _ ⟨hr.make (G.ca ci) args.pos args.kw, guards_make c.gd⟩ (e0.make (G.ca ci) args.pos args.kw) b r2 hq) fun r s' hq' => ?_))
  cases r with
  | error e => exact c.tk _ _ (L2N.XE.of_call I2 (fun cls d H' z => z) hq')
  | ok fl =>
    cases fl with
    | ret u =>
      obtain ⟨v, H', I3, rv, ev, q3⟩ := I2.after hq'
      subst ev
      exact ⟨rv, ⟨V.ref (s.heap.objs.size + 1), H', I3, rfl, q3⟩⟩
    | next => exact False.elim hq'
    | brk => exact False.elim hq'
    | cont => exact False.elim hq'
end
end PI
set_option maxHeartbeats 1000000
/-! PISndV: calls of classes and methods; fields; isinstance with own classes. -/
namespace PI
open PySem PySem.Spec PyProof.Rows L2
section
variable {X : Cx} {G : Ga} {W : WX} {k : Nat} {f : Addr} {fd : FuncData} {ps : List Str} {sem : FT} {n : Nat} {B : Shared → Args → List Value → Prop} {pos p apos : Pos} {x : Str} {a o : Expr} {es : List Expr} {g : Gs} {H : Hp}
/-- the wish behind a call's arguments -/
def PostC (G : Ga) (W : WX) (g : Gs) (H : Hp) (σ : St) (Q : VK) (r : Res SV) : Prop := PostR G W g H σ r fun s e' M' => ∀ (v : V) (H' : Hp) (g' : Gs), Next g H g' H' → Rel G g' σ H' e' M' → SVIs G g' H' σ e' v s → Q v H'
theorem PostC.from {g' : Gs} {H' : Hp} {σ : St} {Q : VK} {r : Res SV} (N : Next g H g' H') (h : PostC G W g H σ Q r) : PostC G W g' H' σ Q r :=
  (PostR.from N h).mono fun s e' M' _ kk v H2 g2 N2 => kk v H2 g2 (N.trans N2)
theorem okCallX (c : XI X G W k) (C : CalX X G W f n sem B) (hm : X.mg x = some (.ref f)) (hk : PySem.W.keepIn X.K (.ref f) = true) {dd : List D} {dv : List V} {dvs : List Value}
    (hb : ∀ (s : Shared) (us : List Value), X.K.In s.heap → (us ++ dvs).length = n → B s ⟨us, []⟩ (us ++ dvs)) (hd : Vals dv dvs) (hdI : ∀ g H, IsL G g H dd dv) {m : EM (List D)} (ha : PAI X G W (a :: es) m) (hl : LenIs m (a :: es).length)
    (hlen : (a :: es).length + dd.length = n) (hg : Gl X x) (hdb : (x == ("__debug__" : Str)) = false) (he : starEach (a :: es) X.env = (false, eval a X.env) :: starEach es X.env) (hpl : (backTo pos (starEach es X.env)).any (·.1) = false) :
    PEI X G W (.Call (.Name x p) (a :: es) [] pos) (eCallD sem dd m) := by
  refine ⟨fun pins s σ H Q I ⟨g, e, M, R, h⟩ => ?_⟩
  refine wpAny_Call_Name_kw (ld_glob I hg hm ?_ hdb)
  refine PySem.W.callWith_K (h₀ := X.base) I.ok.mod.kin hk (thn (ha.run pos pins s σ H (fun vs H1 => ∃ g1 e1 M1 ds, IsL G g1 H1 ds vs ∧ ds.length + dd.length = n ∧ Rel G g1 σ H1 e1 M1 ∧ PostC G W g1 H1 σ Q ((sem (ds ++ dd) M1).to e1)) I
    ⟨g, e, M, R, (PostR.bind h).mono fun ds e1 M1 eq k1 vs H1 g1 N1 R1 r => ⟨g1, e1, M1, ds, r, by rw [hl _ _ _ _ _ eq]; exact hlen, R1, PostC.from N1 k1⟩⟩) fun us s1 ⟨vs, H1, I1, r, g1, e1, M1, ds, q, hl, R1, k1⟩ => ⟨I1.kIn, ?_⟩) he hpl
  have r2 : Vals (vs ++ dv) (us ++ dvs) := r.append hd
  have q2 : IsL G g1 H1 (ds ++ dd) (vs ++ dv) := IsL.append q (hdI g1 H1)
  have hu : (us ++ dvs).length = n := by rw [isL_len q2 r2, List.length_append]; exact hl
  exact C (args := ⟨us, []⟩) I1 (hb s1 us I1.kIn hu) r2 (spI_of R1 (by rw [List.length_append]; exact hl) q2 k1)
end
/-! ### classes by name -/
/-- a class of the text whose instances are made by the def f -/
structure KnC (P : Program) (w : World) (G : Ga) (mg : Str → Option Value) (base : Heap) (k : Nat) (ci : Nat) (x : Str) (ps : List Str) (sem : FT) (f : Addr) (fd : FuncData) : Prop where
  m : mg x = some (.ref (G.ca ci))
  mkr : Mk G.K (G.ca ci) f
  fn : FnI P w G mg base k f fd ps sem
theorem KnC.mono {P : Program} {w : World} {G : Ga} {mg : Str → Option Value} {base : Heap} {j k ci : Nat} {x : Str} {ps : List Str} {sem : FT} {f : Addr} {fd : FuncData} (h : KnC P w G mg base j ci x ps sem f fd) (l : j ≤ k) : KnC P w G mg base k ci x ps sem f fd := ⟨h.m, h.mkr, h.fn.mono l⟩
/-- the two ways to make -/
structure MkWay (mk : Nat → FT → FT) : Prop where
  ok : ∀ {G : Ga} {ci n : Nat} {sem : FT} {H : Hp} {vs : List V} {Q : VK} {E : XK} {x dx : Addr}, SpI G n (mk ci sem) vs H Q E → H x = none → H dx = none → dx ≠ x → SpI G (n + 1) sem (.ref x :: vs) (hMake G H ci x dx) (fun v H2 => v = .non ∧ Q (.ref x) H2) E
theorem wayI : MkWay mkI := ⟨fun h => spI_mkI h⟩
section
variable {X : Cx} {G : Ga} {W : WX} {k j ci : Nat} {f : Addr} {fd : FuncData} {ps : List Str} {sem : FT} {pos p : Pos} {x : Str} {a : Expr} {es : List Expr} {mk : Nat → FT → FT}
theorem KnC.cal (w : MkWay mk) (c : XI X G W j) (h : KnC X.prog X.w G X.mg X.base k ci x ps sem f fd) (hj : k + 1 ≤ j) {n : Nat} (hn : ps.length = n + 1) : CalX X G W (G.ca ci) n (mk ci sem) (BMk X.K fd ps) :=
  calMk (fun q => w.ok q) (by rw [c.K]; exact h.mkr) h.fn (c.mono hj) hn
theorem okMakeB (w : MkWay mk) (c : XI X G W j) (h : KnC X.prog X.w G X.mg X.base k ci x ps sem f fd) {dd : List D} (b : Bd G fd ps dd) {m : EM (List D)} (ha : PAI X G W (a :: es) m) (hl : LenIs m (a :: es).length)
    (hj : k + 1 ≤ j := by omega) (hlen : (a :: es).length + dd.length + 1 = ps.length := by rfl) (hg : Gl X x := by rfl) (hdb : (x == ("__debug__" : Str)) = false := by decide) (he : starEach (a :: es) X.env = (false, eval a X.env) :: starEach es X.env := by rfl) (hpl : (backTo pos (starEach es X.env)).any (·.1) = false := by rfl) :
    PEI X G W (.Call (.Name x p) (a :: es) [] pos) (eCallD (mk ci sem) dd m) := by
  obtain ⟨dvs, dv, b1, b2, b3⟩ := b
  rw [← c.K] at b1
  refine okCallX c (h.cal w c hj hlen.symm) h.m (by rw [c.K]; exact h.mkr.kp) (fun s us hK hu x s' hs => ?_) b2 b3 ha hl rfl hg hdb he hpl
  have := b1 s' (.ref x :: us) (hK.keeps hs) (by rw [List.cons_append, List.length_cons, hu, ← hlen])
  rw [List.cons_append] at this
  exact this
end
/-! ### fields -/
section
variable {X : Cx} {G : Ga} {W : WX} {k ci : Nat} {g : Gs} {H : Hp} {pins : List (Addr × Obj)} {σ : St} {s : Shared} {pos pos' : Pos} {o e : Expr}
theorem vw_ins {c : Nat} {fs : List (Nat × D)} {v : V} (h : Vw G g H (.ins c fs) v) : ∃ a dx vfs, v = .ref a ∧ Rd H a (.ins (G.ca c) dx vfs) ∧ IsFl G g H fs vfs := by
  rcases h with h | ⟨a, o, rfl, q, e⟩
  · simp only [Is] at h
    obtain ⟨a, dx, vfs, o, rfl, q, r⟩ := h
    exact ⟨a, dx, vfs, rfl, .inr ⟨o, q⟩, r⟩
  · cases o with
    | ins c' fs' =>
      cases e
      obtain ⟨dx, vfs, q, r⟩ := q
      exact ⟨a, dx, vfs, rfl, .inl q, r⟩
    | _ => cases e
theorem rd_ins {P : Program} {w : World} {h : Heap} {a C dx : Addr} {fs : List (Str × V)} (q : Rd H a (.ins C dx fs)) (hok : HOk P w H h) : ∃ mA, ObjM h a dx C mA ∧ ∀ f, RelO (fs.lookup f) (mA f) := by
  obtain ⟨d, z, ne, ob, mA, n, r, _⟩ := q.ok hok
  exact ⟨mA, ⟨ob, n, ne⟩, r⟩
theorem isFl_get {i : Nat} (inj : ∀ j, G.fld j = G.fld i → j = i) {d : D} : ∀ {fs : List (Nat × D)} {vfs : List (Str × V)}, IsFl G g H fs vfs → fs.lookup i = some d → ∃ v, vfs.lookup (G.fld i) = some v ∧ Is G g H d v
  | [], [], _, h => by simp at h
  | (f, d') :: fs, (q, v) :: vfs, h, e => by
    simp only [IsFl] at h
    by_cases hf : i = f
    · subst hf
      have e2 : d' = d := by simpa [List.lookup] using e
      subst e2
      refine ⟨v, ?_, h.2.1⟩
      rw [h.1]
      simp [List.lookup]
    · have h1 : (i == f) = false := beq_eq_false_iff_ne.mpr hf
      have h2 : (G.fld i == q) = false := beq_eq_false_iff_ne.mpr fun z => hf (inj f (by rw [z, h.1])).symm
      simp only [List.lookup, h1] at e
      simp only [List.lookup, h2]
      exact isFl_get inj h.2.2 e
  | [], _ :: _, h, _ => by simp only [IsFl] at h
  | (_, _) :: _, [], h, _ => by simp only [IsFl] at h
theorem isFl_put {i : Nat} (inj : ∀ j, G.fld j = G.fld i → j = i) {d : D} {y : V} (hd : Is G g H d y) : ∀ {fs : List (Nat × D)} {vfs : List (Str × V)}, IsFl G g H fs vfs → IsFl G g H (putFD i d fs) (putF (G.fld i) y vfs)
  | [], [], _ => by
    simp only [putFD, putF, IsFl]
    exact ⟨trivial, hd, trivial⟩
  | (f, d') :: fs, (q, v) :: vfs, h => by
    simp only [IsFl] at h
    obtain ⟨rfl, h1, h2⟩ := h
    by_cases hf : f = i
    · subst hf
      simp only [putFD, putF, if_pos trivial, IsFl]
      exact ⟨trivial, hd, h2⟩
    · have hq : ¬ G.fld f = G.fld i := fun z => hf (inj f z)
      simp only [putFD, putF, if_neg hf, if_neg hq, IsFl]
      exact ⟨trivial, h1, isFl_put inj hd h2⟩
  | [], _ :: _, h => by simp only [IsFl] at h
  | (_, _) :: _, [], h => by simp only [IsFl] at h
theorem isFl_len : ∀ {fs : List (Nat × D)} {vfs : List (Str × V)}, IsFl G g H fs vfs → fs.length = vfs.length
  | [], [], _ => rfl
  | (_, _) :: fs, (_, _) :: vfs, h => by
    simp only [IsFl] at h
    exact congrArg Nat.succ (isFl_len h.2.2)
  | [], _ :: _, h => by simp only [IsFl] at h
  | (_, _) :: _, [], h => by simp only [IsFl] at h
/-- what is known of a field: its class, its name stands once -/
structure FdOk (G : Ga) (ci i : Nat) (f : Str) : Prop where
  cl : Cls G.K (G.ca ci)
  no : NoAttr G.K (G.ca ci) f
  nm : G.fld i = f
  inj : ∀ j, G.fld j = G.fld i → j = i
/-- o.f of an instance that may be locked -/
theorem pe_at {ta : TE} {f : Str} (he : PE X o ta) (hb : attributeBase o f X.env (eval o X.env) = eval o X.env) : PE X (.Attribute o f pos) (fun σ H Q => ta σ H fun x H1 => ∃ a C dx fs v, x = .ref a ∧ Rd H1 a (.ins C dx fs) ∧ Cls X.K C ∧ NoAttr X.K C f ∧ fs.lookup f = some v ∧ Q v H1) := by
  refine ⟨fun pins s σ H Q I h => attr_of hb (thn (he.run pins s σ H _ I h) fun u s1 hh => ?_)⟩
  obtain ⟨x, H1, I1, rx, a, C, dx, fs, v, ex, ea, c, n, l, q⟩ := hh
  subst ex
  cases (show u = Value.ref a from rx)
  obtain ⟨mA, O, r⟩ := rd_ins ea I1.hok
  have rf := r f
  rw [l] at rf
  obtain ⟨u', hu, ru⟩ := rf.some_of
  exact get_map I1.kIn O (c.get f) c.hd n hu (handed_of ru) ⟨v, H1, I1.tok _, ru, q⟩
theorem okFld (c : XJ X G W) {i : Nat} {f : Str} (F : FdOk G ci i f) {m : EM PV} (ho : PPI X G W o m) (hb : attributeBase o f X.env (eval o X.env) = eval o X.env := by rfl) : PEI X G W (.Attribute o f pos) (e1 (fFld ci i) m) :=
  PE.imp (pe_at ho hb) fun σ H Q ⟨g, e, M, R, h⟩ => ⟨g, e, M, R, (PostR.bind h).mono fun p e1 M1 _ k1 x H1 g1 N1 R1 p1 => by
    obtain ⟨d1, k3, q1⟩ := now_ok R1 p1 (PostR.bind (k1.from N1))
    obtain ⟨r, er, k4⟩ := lift_ok k3
    unfold fFld at er
    split at er
    · rename_i c' fs
      split at er
      · rename_i hc
        subst hc
        obtain ⟨d, hd, rfl⟩ := Option.map_eq_some_iff.mp er
        obtain ⟨a, dx, vfs, rfl, q2, q3⟩ := vw_ins q1
        obtain ⟨v, e2, q4⟩ := isFl_get F.inj q3 hd
        rw [F.nm] at e2
        exact ⟨a, _, dx, vfs, v, rfl, q2, by rw [c.K]; exact F.cl, by rw [c.K]; exact F.no, e2, k4 v H1 g1 N1 R1 q4⟩
      · cases er
    · cases er⟩
theorem okFldP (c : XJ X G W) {i : Nat} {f : Str} (F : FdOk G ci i f) {mv : EM D} {mo : EM PV} (hv : PUI X G W e mv) (ho : PPI X G W o mo) (hs : swapsWith e (some (.Attribute o f pos')) pos.line X.env = pure false := by rfl) :
    PSI X G W (.Assign [.Attribute o f pos'] e pos) (sFldP ci i mv mo) :=
  PS.imp (ps_fld ho hv hs) fun D σ H ⟨g, e, M, R, h⟩ => ⟨g, e, M, R, (PostS.bind h).mono fun d e1 M1 _ k1 z H1 g1 N1 R1 iz => ⟨g1, e1, M1, R1, (PostS.bind (k1.from N1)).mono fun p e2 M2 _ k2 x H2 g2 N2 R2 ip => by
    have k4 := PostS.bind (σ := σ) (k2.from N2)
    obtain ⟨a, ob, dd, o', e4, M4, rfl, q1, q2, k5, q3⟩ := chg_ok R2 ip k4
    obtain ⟨o2, q4, q5⟩ := Option.map_eq_some_iff.mp q2
    cases q5
    unfold mFldP at q4
    split at q4
    · rename_i c' fs
      split at q4
      · rename_i hc
        obtain ⟨rfl, hl⟩ := hc
        cases q4
        obtain ⟨dx, vfs, q6, q7⟩ := q1
        have hu : OIs G g2 (upd H2 a (.ins (G.ca c') dx (putF f z vfs))) a (.ins c' (putFD i d fs)) := by
          refine ⟨dx, putF f z vfs, upd_same, ?_⟩
          have ii := isFl_put F.inj (iz.next N2) q7
          rw [F.nm] at ii
          exact ii.nextI ⟨⟨[], by simp⟩, fun b u hb nm => by rw [upd_ne fun eb => nm (by rw [← hb, eb, q6]; trivial)]; exact hb⟩
        obtain ⟨N4, R4⟩ := q3 _ hu
        exact ⟨a, _, dx, vfs, rfl, q6, by rw [c.K]; exact F.cl, by rw [c.K]; exact F.no, by rw [← isFl_len q7]; omega, k5 σ _ g2 N4 R4⟩
      · cases q4
    · cases q4⟩⟩
end
/-! ### methods -/
/-- a method of the class ci -/
structure KnM (P : Program) (w : World) (G : Ga) (mg : Str → Option Value) (base : Heap) (k : Nat) (ci : Nat) (m : Str) (ps : List Str) (sem : FT) (f : Addr) (fd : FuncData) : Prop where
  cl : Cls G.K (G.ca ci)
  me : Meth G.K (G.ca ci) m f
  nf : ∀ i, G.fld i ≠ m
  fn : FnI P w G mg base k f fd ps sem
theorem KnM.mono {P : Program} {w : World} {G : Ga} {mg : Str → Option Value} {base : Heap} {j k ci : Nat} {m : Str} {ps : List Str} {sem : FT} {f : Addr} {fd : FuncData} (h : KnM P w G mg base j ci m ps sem f fd) (l : j ≤ k) : KnM P w G mg base k ci m ps sem f fd := ⟨h.cl, h.me, h.nf, h.fn.mono l⟩
end PI
set_option maxHeartbeats 1000000
/-! PISndW: str of data, text * n, isinstance with own classes, fields of the handled exception. -/
namespace PI
open PySem PySem.Spec PyProof.Rows L2
section
variable {X : Cx} {G : Ga} {W : WX} {k : Nat} {g : Gs} {H : Hp} {pins : List (Addr × Obj)} {σ : St} {s : Shared} {pos : Pos}
theorem ok_strA [PgT G] (c : XJ X G W) (sm : SmOk G.K) : CallR X (.type "str") (rB G fStrA) := by
  intro pins s σ H xs us Q I r ⟨g, M, ds, rr, R, w, e, q⟩
  have hu := c.room.units
  unfold fStrA at e
  split at e
  · cases e
    obtain ⟨v, rfl, h⟩ := vwl1 w
    obtain ⟨rfl, hl⟩ := vw_str h
    obtain ⟨u, rfl, t, rfl⟩ := vals1 r
    exact PySem.P.str_of_str ⟨.str _, H, I, ⟨_, rfl⟩, q _ _ (Grow.refl _) ⟨rfl, hl⟩⟩
  · rename_i hns
    unfold fReprA at e
    split at e
    · rename_i d
      obtain ⟨v, rfl, h⟩ := vwl1 w
      obtain ⟨u, rfl, r1⟩ := vals1 r
      have noL : ¬ LstAt s := fun ⟨o, h1, h2⟩ => by
        obtain ⟨o2, k1, k2⟩ := sm
        rw [← c.K] at k1
        have := I.kIn _ _ k1
        rw [h1] at this
        cases this
        have k3 : (Value.type "list") = .type "dict" := h2.symm.trans k2
        injection k3 with k4
        exact absurd k4 (by decide)
      have main : ∀ {p : PyData}, dat d = some p → reprOkA p = true → rr = .val (.str p.shown.cps.toList) → wpAny (model X.prog X.w) X.A (call (.type "str") [u]) (EP X pins σ Q) X.xe s := by
        intro p h1 ok er
        subst er
        simp only [reprOkA, Bool.and_eq_true, decide_eq_true_eq] at ok
        obtain ⟨as, rd, hn⟩ := Vw.reads c.K I h h1 r1
        have fin : Q (.str p.shown) H := q _ _ (Grow.refl _) ⟨rfl, reprIs ok.2⟩
        have kk : ∀ {h' : Heap} {u : Tok} {tk : Nat}, (∀ b o, s.heap.get? b = some o → h'.get? b = some o) → EP X pins σ Q (.str p.shown u) { s with heap := h', toks := tk } := fun hk => ⟨.str _, H, I.kept hk, ⟨_, rfl⟩, fin⟩
        cases rd with
        | list a1 a2 a3 a4 => exact PySem.str_of_reads (Reads.list a1 a2 a3 a4) ok.1.1 (fun _ hm => noL (hn.2 hm)) (c.gd.1 PgT.h) (by omega) (fun _ _ e => e) (fun h' u tk hk => kk hk) (by rw [sizeLine_eq]; omega)
        | tuple a1 a2 a3 a4 => exact PySem.str_of_reads (Reads.tuple a1 a2 a3 a4) ok.1.1 (fun _ hm => noL (hn.2 hm)) (c.gd.1 PgT.h) (by omega) (fun _ _ e => e) (fun h' u tk hk => kk hk) (by rw [sizeLine_eq]; omega)
        | dict a1 a2 a3 a4 a5 => exact PySem.str_of_reads (Reads.dict a1 a2 a3 a4 a5) ok.1.1 (fun _ hm => noL (hn.2 hm)) (c.gd.1 PgT.h) (by omega) (fun _ _ e => e) (fun h' u tk hk => kk hk) (by rw [sizeLine_eq]; omega)
        | none => exact PySem.P.str_of_none ⟨.str _, H, I.tok _, ⟨_, rfl⟩, fin⟩
        | bool b => exact PySem.P.str_of_bool ⟨.str _, H, I.tok _, ⟨_, rfl⟩, fin⟩
        | int i t => exact PySem.P.str_of_int (by have := ok.1.1; simpa [PyData.showable] using this) ⟨.str _, H, I.tok _, ⟨_, rfl⟩, fin⟩
        | str x t =>
          cases d with
          | str cs => exact absurd rfl (hns cs)
          | non => cases h1
          | bl _ => cases h1
          | int _ => cases h1
          | tup ds => simp only [dat] at h1; cases hd : datL ds with
            | none => rw [hd] at h1; cases h1
            | some _ => rw [hd] at h1; cases h1
          | tupw ds => simp only [dat] at h1; cases hd : datL ds with
            | none => rw [hd] at h1; cases h1
            | some _ => rw [hd] at h1; cases h1
          | lst ds => simp only [dat] at h1; cases hd : datL ds with
            | none => rw [hd] at h1; cases h1
            | some _ => rw [hd] at h1; cases h1
          | dic ds => simp only [dat] at h1; cases hd : datK ds with
            | none => rw [hd] at h1; cases h1
            | some _ => rw [hd] at h1; cases h1
          | _ => cases h1
      split at e
      · cases e
      · cases h1 : dat d with
        | none => rw [h1] at e; cases e
        | some p =>
          rw [h1] at e
          have e : (if reprOkA p = true then sv (.str p.shown.cps.toList) else none) = some rr := e
          split at e
          · rename_i ok
            cases e
            exact main h1 ok rfl
          · cases e
    · cases e
/-! isinstance with own classes -/
/-- what is known of the classes below n -/
structure IuOk (G : Ga) (lo n : Nat) : Prop where
  cl : ∀ c, lo ≤ c ∧ c < n → Cls G.K (G.ca c) ∧ PySem.W.findIn G.K (.ref (G.ca c)) "__class__" = some (some (.builtin "object.__class__")) ∧ PySem.W.specialIn G.K (.builtin "object.__class__") "__get__" = some (some (.builtin "getset_descriptor.__get__")) ∧
    PySem.W.takesIn G.K (.builtin "object.__class__") = some true ∧ PySem.W.mroIn G.K (G.ca c) (.type "object") = some true
  bi : ∀ c, lo ≤ c ∧ c < n → ∀ T ∈ ["NoneType", "bool", "int", "str", "tuple", "list", "dict"], PySem.W.kitOne G.K (.type T) (.ref (G.ca c)) = some false ∧ (T ≠ "NoneType" → PySem.W.kitOne G.K (.ref (G.ca c)) (.type T) = some false)
  ow : ∀ c d, lo ≤ c ∧ c < n → lo ≤ d ∧ d < n → PySem.W.kitOne G.K (.ref (G.ca c)) (.ref (G.ca d)) = some (c == d)
theorem ins_kit (c : XJ X G W) {lo n ci : Nat} (hI : IuOk G lo n) (hc : lo ≤ ci ∧ ci < n) (I : Inv X pins σ H s) {fs : List (Nat × D)} {v : V} {u : Value} (h : Vw G g H (.ins ci fs) v) (r : RelV v u) :
    ∃ P : Heap → Prop, PySem.W.KitX X.K u (.ref (G.ca ci)) P ∧ P s.heap ∧ u ≠ .builtin "__main__.__loader__#opaque" := by
  obtain ⟨a, dx, vfs, rfl, q2, q3⟩ := vw_ins h
  cases (show u = Value.ref a from r)
  obtain ⟨mA, O, _⟩ := rd_ins q2 I.hok
  obtain ⟨od, J, _⟩ := O.look
  obtain ⟨h1, h2, h3, h4, h5⟩ := hI.cl ci hc
  rw [← c.K] at h1 h2 h3 h4 h5
  exact ⟨_, PySem.W.kitx_own (h1.get _) h1.hd h2 h3 h4 h5, J, fun z => nomatch z⟩
theorem ok_isU (c : XJ X G W) {lo n : Nat} (hI : IuOk G lo n) : CallR X (.builtin "isinstance") (rB G (fIsU lo n)) := by
  intro pins s σ H xs us Q I r ⟨g, M, ds, rr, R, w, e, q⟩
  unfold fIsU at e
  split at e
  · rename_i ci fs kk
    split at e
    · rename_i hc
      cases e
      obtain ⟨v1, v2, rfl, w1, w2⟩ := vwl2 w
      obtain ⟨u1, u2, rfl, r1, r2⟩ := vals2 r
      obtain ⟨P, Z, p, hx⟩ := ins_kit c hI hc.1 I w1 r1
      cases vw_cls w2
      cases (show u2 = Value.ref (G.ca kk) from r2)
      exact PySem.W.kia_one Z I.kIn p (by rw [c.K]; exact hI.ow ci kk hc.1 hc.2) hx fun tk => ⟨.bl _, H, I.tok tk, rfl, q _ _ (Grow.refl _) rfl⟩
    · cases e
  · rename_i ci fs T
    split at e
    · rename_i hc
      cases e
      obtain ⟨v1, v2, rfl, w1, w2⟩ := vwl2 w
      obtain ⟨u1, u2, rfl, r1, r2⟩ := vals2 r
      obtain ⟨P, Z, p, hx⟩ := ins_kit c hI hc.1 I w1 r1
      cases vw_ty w2
      cases (show u2 = Value.type T from r2)
      refine PySem.W.kia_one Z I.kIn p (b := false) ?_ hx fun tk => ⟨.bl _, H, I.tok tk, rfl, q _ _ (Grow.refl _) rfl⟩
      rw [c.K]
      refine (hI.bi ci hc.1 T ?_).2 ?_
      · rcases hc.2 with rfl | rfl | rfl | rfl | rfl | rfl <;> simp
      · rcases hc.2 with rfl | rfl | rfl | rfl | rfl | rfl <;> decide
    · cases e
  · rename_i d kk _
    split at e
    · rename_i hc
      obtain ⟨t, ht, rfl⟩ := Option.map_eq_some_iff.mp e
      obtain ⟨v1, v2, rfl, w1, w2⟩ := vwl2 w
      cases vw_cls w2
      refine call_isi pins s σ H _ us Q I r ⟨v1, _, .type t, .ref (G.ca kk), false, rfl, .own _, tyD_is c.K w1 ht, ?_, q _ _ (Grow.refl _) rfl⟩
      rw [c.K]
      exact (hI.bi kk hc t (tyD_mem ht)).1
    · cases e
  · exact ok_isi c pins s σ H xs us Q I r ⟨g, M, _, rr, R, w, e, q⟩
/-! a field of the handled exception -/
section
variable {x : Xn} {p : Addr × Obj} {dX : Option Addr}
/-- what is known of a field of exceptions: of all classes below n that may be raised -/
structure XfOk (G : Ga) (n i : Nat) (f : Str) : Prop where
  xf : ∀ c, c < n → XfC G.K (G.ca c) ∧ PySem.W.findIn G.K (.ref (G.ca c)) f = some none
  nm : G.fld i = f
theorem isFx_get {i : Nat} {d : D} {vfs : List (Str × V)} : ∀ {fs : List (Nat × D)}, IsFx G g H fs vfs → fs.lookup i = some d → ∃ v, vfs.lookup (G.fld i) = some v ∧ Is G g H d v
  | [], _, h => by simp at h
  | (f, d') :: fs, h, e => by
    simp only [IsFx] at h
    by_cases hf : i = f
    · subst hf
      have e2 : d' = d := by simpa [List.lookup] using e
      subst e2
      exact h.1
    · have h1 : (i == f) = false := beq_eq_false_iff_ne.mpr hf
      simp only [List.lookup, h1] at e
      exact isFx_get h.2 e
theorem okXf {n i : Nat} {f : Str} (c : XJ X (gaX G x p dX) W) (F : XfOk G n i f) (hp : p ∈ X.pn) (hh : HotX G x p dX) (hn : x.c < n) {o : Expr} {m : EM PV} (ho : PPI X (gaX G x p dX) W o m) (hb : attributeBase o f X.env (eval o X.env) = eval o X.env := by rfl) : PEI X (gaX G x p dX) W (.Attribute o f pos) (e1 (fXf i) m) := by
  refine ⟨fun pins s σ H Q I ⟨g, e, M, R, h⟩ => ?_⟩
  have h2 := PostR.bind h
  refine attr_of hb (thn (ho.run pins s σ H (fun v H1 => ∃ g1 e1 M1 p1, PVIs (gaX G x p dX) g1 H1 σ v p1 ∧ Rel (gaX G x p dX) g1 σ H1 e1 M1 ∧ PostC (gaX G x p dX) W g1 H1 σ Q (EM.bind p1.now (fun z => EM.lift (fXf i z)) e1 M1)) I
    ⟨g, e, M, R, h2.mono fun p1 e1 M1 _ k1 v H1 g1 N1 R1 r => ⟨g1, e1, M1, p1, r, R1, PostC.from N1 k1⟩⟩) fun u s1 hs => ?_)
  obtain ⟨v, H1, I1, rv, g1, e1, M1, p1, pv, R1, k1⟩ := hs
  obtain ⟨d0, k2, q1⟩ := now_ok R1 pv (PostR.bind k1)
  obtain ⟨r, er, k3⟩ := lift_ok k2
  unfold fXf at er
  split at er
  · rename_i ce fs
    obtain ⟨d, hd, rfl⟩ := Option.map_eq_some_iff.mp er
    rcases q1 with q1 | ⟨a, o, _, _, z⟩
    · simp only [Is] at q1
      obtain ⟨a, dd, rfl, ⟨ea, ec, ed⟩, r⟩ := q1
      cases (show u = Value.ref a from rv)
      subst ea
      rcases r with ⟨_, rfl⟩ | ⟨da, vfs, e2, e3, r⟩
      · simp at hd
      · obtain ⟨w, hw, iw⟩ := isFx_get r hd
        have hw : vfs.lookup (G.fld i) = some w := hw
        rw [F.nm] at hw
        obtain ⟨hget, _⟩ := I1.pin p (List.mem_append.mpr (.inl hp))
        obtain ⟨vs, hv⟩ := hh.f
        obtain ⟨z1, z2, _⟩ := hh.z
        obtain ⟨mA, hns, hr⟩ := (show ObjOk X.prog X.w H1 s1.heap da (.xd vfs) from I1.hok da _ e3)
        obtain ⟨od, ho, hl⟩ := lookIn_ns hns
        have rf := hr f
        rw [hw] at rf
        obtain ⟨uu, hu, ru⟩ := rf.some_of
        have J : PySem.W.InstAt s1.heap p.1 p.2 (G.ca x.c) (some od) := ⟨hget, z1, by unfold PySem.W.notCls; rw [hv] <;> rfl, by rw [z2, ← ed, e2]; exact ho⟩
        obtain ⟨T, hno⟩ := F.xf x.c hn
        have hK : X.K = G.K := c.K
        rw [← hK] at T hno
        exact HandSPX.exc_get I1.kIn J T.ga T.gg T.exC (PySem.W.findObj_own T.hdC hno rfl (by rw [hl, hu])) (handed_of ru) ⟨w, H1, I1.tok _, ru, k3 w H1 g1 (Next.refl _ _) R1 iw⟩
    · cases o <;> cases z
  · cases er
end
end
end PI
set_option maxHeartbeats 1000000
/-! PISndX: raise C(..) with fields; try without a name. -/
namespace PI
open PySem PySem.Spec PyProof.Rows L2
/-! ### an exception's __init__ that stores its parameters -/
def spX (K : PySem.W.Frag) (C : Addr) (fl : List Str) : Sp := fun vs H Q _ => ∃ a ys, vs = .ref a :: ys ∧ ys.length = fl.length ∧ OexC K C ∧ (∀ f ∈ fl, PySem.W.findIn K (.ref C) f = some none) ∧ H a = some (exo a C none) ∧
  ∀ H' d, H' a = some (exo a C (some d)) → H' d = some (exd d (fl.zip ys).reverse) → H d = none → (∀ b, b ≠ a → b ≠ d → H' b = H b) → Q .non H'
theorem spX_len {K : PySem.W.Frag} {C : Addr} {fl : List Str} {n : Nat} (hn : fl.length + 1 = n) : ∀ vs H Q E, spX K C fl vs H Q E → vs.length = n := fun vs H Q E ⟨a, ys, e, l, _⟩ => by rw [e, List.length_cons, l, hn]
section
variable {K : PySem.W.Frag} {C : Addr} {f1 f2 f3 : Str} {vs : List V} {H : Hp} {Q : VK} {E : XK} {N : List Str}
theorem xread1 (h : spX K C [f1] vs H Q E) {p1 : Str} : tOst K f1 (tVar 0) (tVar 1) { nx := fun _ H' => Q .non H', rt := Q } (L2.start ["self", p1] vs) H := by
  obtain ⟨a, ys, rfl, l, T, hno, ea, q⟩ := h
  match ys, l with
  | [y1], _ =>
    refine ⟨y1, rfl, .ref a, rfl, a, C, rfl, T, hno f1 (by simp), .inl ⟨ea, fun dx nd ne => ?_⟩⟩
    refine q _ dx upd_same (by rw [upd_ne ne, upd_same]; rfl) nd fun b h1 h2 => by rw [upd_ne h1, upd_ne h2]
end
/-! ### made -/
/-- an exception class of the text with an __init__ that stores -/
structure KnE (P : Program) (w : World) (G : Ga) (mg : Str → Option Value) (base : Heap) (c : Nat) (x : Str) (fl : List Nat) (ps : List Str) (f : Addr) (fd : FuncData) : Prop where
  m : mg x = some (.ref (G.ca c))
  T : OexC G.K (G.ca c)
  no : ∀ i ∈ fl, PySem.W.findIn G.K (.ref (G.ca c)) (G.fld i) = some none
  ini : PySem.W.findIn G.K (.ref (G.ca c)) "__init__" = some (some (.ref f))
  ty : PySem.W.typeIn G.K (.ref f) = some (.type "function")
  fn : FnOk P w G.K mg base CX0 1 f fd ps (spX G.K (G.ca c) (fl.map G.fld))
  nd : (fl.map G.fld).Nodup
  ln : ps.length = fl.length + 1
section
variable {X : Cx} {G : Ga} {W : WX} {k c : Nat} {f : Addr} {fd : FuncData} {fl : List Nat} {ps : List Str} {pos p pos' : Pos} {x : Str} {a : Expr} {es : List Expr} {g : Gs}
theorem lookup_zip_rev {g : Gs} {H : Hp} : ∀ {fl : List Nat} {ds : List PI.D} {ys : List V}, (fl.map G.fld).Nodup → IsL G g H ds ys → ds.length = fl.length → ∀ vfs : List (Str × V), (∀ f y, (f, y) ∈ (fl.map G.fld).zip ys → vfs.lookup f = some y) → IsFx G g H (fl.zip ds) vfs
  | [], [], [], _, _, _, _, _ => by simp only [List.zip_nil_left, IsFx]
  | i :: fl, d :: ds, y :: ys, nd, q, l, vfs, h => by
    simp only [IsL] at q
    simp only [List.zip_cons_cons, IsFx]
    rw [List.map_cons, List.nodup_cons] at nd
    exact ⟨⟨y, h _ _ (by simp), q.1⟩, lookup_zip_rev nd.2 q.2 (by simpa using l) vfs fun f z hz => h f z (by simp only [List.map_cons, List.zip_cons_cons, List.mem_cons]; exact .inr hz)⟩
  | [], _ :: _, _, _, _, l, _, _ => by simp at l
  | _ :: _, [], _, _, _, l, _, _ => by simp at l
  | _, _ :: _, [], _, q, _, _, _ => by simp only [IsL] at q
  | _, [], _ :: _, _, q, _, _, _ => by simp only [IsL] at q
theorem lookup_nodup {l : List (Str × V)} (nd : (l.map (·.1)).Nodup) {f : Str} {y : V} (h : (f, y) ∈ l) : l.lookup f = some y := by
  induction l with
  | nil => cases h
  | cons p l ih =>
    obtain ⟨k, z⟩ := p
    rw [List.map_cons, List.nodup_cons] at nd
    rcases List.mem_cons.mp h with e | h
    · cases e
      simp [List.lookup]
    · have hk : f ≠ k := fun e => nd.1 (e ▸ List.mem_map_of_mem (f := (·.1)) h)
      have h2 : (f == k) = false := beq_eq_false_iff_ne.mpr hk
      simp only [List.lookup, h2]
      exact ih nd.2 h
theorem map_fst_zip' : ∀ {l : List Str} {ys : List V}, ys.length = l.length → (l.zip ys).map (·.1) = l
  | [], [], _ => rfl
  | f :: l, y :: ys, h => by rw [List.zip_cons_cons, List.map_cons, map_fst_zip' (by simpa using h)]
  | [], _ :: _, h => by simp at h
  | _ :: _, [], h => by simp at h
/-- the making from the arguments' values -/
theorem mkE_run (c0 : XI X G W k) (h : KnE X.prog X.w G X.mg X.base c x fl ps f fd) {pins : List (Addr × Obj)} {σ : St} {H : Hp} {s : Shared} {us : List Value} {vs dv : List V} {dvs : List Value} {Q : XK} (I : Inv X pins σ H s) (hb : Binds X.K fd ps dvs) (hd : Vals dv dvs) (r : Vals vs us) (hn : us.length ≤ 1000)
    (hl : (vs ++ dv).length = fl.length) (q : ∀ d H', H d = none → H' d = some (.xd ((fl.map G.fld).zip (vs ++ dv)).reverse) → (∀ b, b ≠ d → H b = none ∨ H' b = H b) → Grow H H' → Q (.ref (G.ca c)) (some d) H') (hj : 2 ≤ k) :
    wpAny (model X.prog X.w) X.A (call (.ref (G.ca c)) us) (L2N.MkP X pins σ Q) X.xe s := by
  have hT := h.T
  have hini := h.ini
  have hty := h.ty
  have hfn := h.fn
  rw [← c0.K] at hT hini hty hfn
  obtain ⟨nm, qn, N, bs, bm, sn, sub, ab, col, dd, k0, k1, k2, k3, k5, hC, hbm⟩ := hT.cls
  obtain ⟨hp, gg, dr, tk, os⟩ := s
  have hsz : hp.objs.size ≤ hp.objs.size + 1 := Nat.le_succ _
  have hnn : H (hp.objs.size + 1) = none := I.hok.fresh hsz
  have kk : ∀ b o, hp.get? b = some o → ((hp.push (PySem.W.kdv_tup us)).push (PySem.HandSPX.excO (G.ca c) hp.objs.size)).get? b = some o := fun b o e => Heap.get?_push_of_some _ (Heap.get?_push_of_some _ e)
  have hget : ((hp.push (PySem.W.kdv_tup us)).push (PySem.HandSPX.excO (G.ca c) hp.objs.size)).get? (hp.objs.size + 1) = some (PySem.HandSPX.excO (G.ca c) hp.objs.size) := by
    have := Heap.get?_push_size (hp.push (PySem.W.kdv_tup us)) (o := PySem.HandSPX.excO (G.ca c) hp.objs.size) rfl
    rwa [Heap.size_push] at this
  have I2 : Inv X pins σ (upd H (hp.objs.size + 1) (exo (hp.objs.size + 1) (G.ca c) none)) ⟨(hp.push (PySem.W.kdv_tup us)).push (PySem.HandSPX.excO (G.ca c) hp.objs.size), gg, dr, tk, os⟩ :=
    I.laid (t' := tk) (a := hp.objs.size + 1) (o := exo (hp.objs.size + 1) (G.ca c) none) (h' := (hp.push (PySem.W.kdv_tup us)).push (PySem.HandSPX.excO (G.ca c) hp.objs.size)) kk hsz (exo_ok hget)
  have r2 : Vals (V.ref (hp.objs.size + 1) :: (vs ++ dv)) (Value.ref (hp.objs.size + 1) :: (us ++ dvs)) := .cons rfl (r.append hd)
  have l2 : (Value.ref (hp.objs.size + 1) :: us ++ dvs).length = ps.length := by
    have e := r2.length
    rw [List.length_cons, hl] at e
    rw [h.ln, e]; rfl
  have hus : us.length ≤ sizeLine := by rw [sizeLine_eq]; omega
  have hsp : spX X.K (G.ca c) (fl.map G.fld) (V.ref (hp.objs.size + 1) :: (vs ++ dv)) (upd H (hp.objs.size + 1) (exo (hp.objs.size + 1) (G.ca c) none)) (fun v H2 => v = .non ∧ ∃ d, H2 (hp.objs.size + 1) = some (exo (hp.objs.size + 1) (G.ca c) (some d)) ∧ H2 d = some (exd d ((fl.map G.fld).zip (vs ++ dv)).reverse) ∧ H d = none ∧
      ∀ b, b ≠ hp.objs.size + 1 → b ≠ d → H2 b = H b) (fun _ _ _ => False) := by
    refine ⟨_, _, rfl, by rw [List.length_map]; exact hl, hT, fun z hz => ?_, upd_same, fun H' d e1 e2 e3 e4 => ⟨rfl, d, e1, e2, ?_, fun b h1 h2 => by rw [e4 b h1 h2, upd_ne h1]⟩⟩
    · obtain ⟨i, hi, rfl⟩ := List.mem_map.mp hz
      have := h.no i hi
      rw [← c0.K] at this
      exact this
    · by_cases hda : d = hp.objs.size + 1
      · subst hda; exact hnn
      · rwa [upd_ne hda] at e3
  refine wpAny_call (PySem.HandSPX.call_own F.excBase_ValueError (fun Y => PySem.HandSPX.refsVE_contains Y bm hbm) (I.kIn _ _ hC) (PySem.W.looks_findIn I.kIn hini) (fun self => PySem.W.bind_fn I.kIn self hty) hus
    (codeAny_mono (hfn.run _ X.stack _ _ ⟨Value.ref (hp.objs.size + 1) :: us, []⟩ (Value.ref (hp.objs.size + 1) :: (us ++ dvs)) _ _ (fun _ _ _ => False) ((c0.mono hj).roomC.make (G.ca c) us []) (I2.env0.make (G.ca c) us []) (hb _ (Value.ref (hp.objs.size + 1) :: us) I2.kIn l2) r2 hsp) fun r s' hq' => ?_))
  cases r with
  | error er => exact pass0 pins σ _ _ er s' I2 hq'
  | ok fl' =>
    cases fl' with
    | ret u =>
      obtain ⟨v, H2, os2, bare2, un2, hok2, rv, ev, d, ea, ed, hd1, same⟩ := hq'
      subst ev
      obtain ⟨h2, g2, d2, t2, os'⟩ := s'
      obtain ⟨t0, Gh, J, kG, ge, hoe, na⟩ := mk_end0 (d2 := d2) (t2 := t2) I hsz kk un2 hok2 os2 bare2 ea ed hd1
      have hda : d ≠ hp.objs.size + 1 := fun z => by
        rw [z] at ed
        rw [ea] at ed
        have z2 := Option.some.inj ed
        have z3 := na
        rw [← z, upd_same] at z3
        cases z3
      refine ⟨rv, ⟨hp.objs.size + 1, _, _, ⟨Gh, g2, d2, t2, os'⟩, _, .ref (G.ca c), some d, rfl, J, kG, ge, hoe, ⟨rfl, rfl, fun vs hv => ?_⟩, rfl, rfl, na, rfl, bare2, raises_own hT.exC hT.tyC, q d _ hd1 upd_same (fun b hbd => ?_) fun b o hb => ?_⟩⟩
      · cases hv
        rfl
      · rw [upd_ne hbd]
        by_cases hba : b = hp.objs.size + 1
        · subst hba; exact .inl hnn
        · rw [del_ne hba]
          exact .inr (same b hba hbd)
      · have hbd : b ≠ d := ne_of_none hb hd1
        have hba : b ≠ hp.objs.size + 1 := ne_of_none hb hnn
        rw [upd_ne hbd, del_ne hba, same b hba hbd]
        exact hb
    | next => exact False.elim hq'
    | brk => exact False.elim hq'
    | cont => exact False.elim hq'
/-- raise C(e, ..) -/
theorem okRaiseF (c0 : XI X G W k) (h : KnE X.prog X.w G X.mg X.base c x fl ps f fd) {dd : List PI.D} (b : Bd G fd ps dd) {m : EM (List PI.D)} (ha : PAI X G W (a :: es) m) (hl : LenIs m (a :: es).length) (hlen : (a :: es).length + dd.length = fl.length := by rfl) (hj : 2 ≤ k := by omega) (hfew : Nat.ble (a :: es).length 1000 = true := by rfl)
    (hg : Gl X x := by rfl) (hdb : (x == ("__debug__" : Str)) = false := by decide) (he : starEach (a :: es) X.env = (false, eval a X.env) :: starEach es X.env := by rfl) (hpl : (backTo pos' (starEach es X.env)).any (·.1) = false := by rfl) :
    PSI X G W (.Raise (some (.Call (.Name x p) (a :: es) [] pos')) none pos) (sRaiseF c fl dd m) := by
  obtain ⟨dvs, dv, b1, b2, b3⟩ := b
  rw [← c0.K] at b1
  refine PS.imp (L2N.ps_raise c0.calm c0.tk (t := fun σ H Q => tA G W m σ H fun vs H1 => (vs ++ dv).length = fl.length ∧ vs.length ≤ 1000 ∧ ∀ d H', H1 d = none → H' d = some (.xd ((fl.map G.fld).zip (vs ++ dv)).reverse) → (∀ b, b ≠ d → H1 b = none ∨ H' b = H1 b) → Grow H1 H' → Q (.ref (G.ca c)) (some d) H') ?_) ?_
  · intro pins s σ H Q I hh
    refine wpAny_Call_Name_kw (ld_glob I hg h.m ?_ hdb)
    have kC := h.T.kC
    rw [← c0.K] at kC
    refine PySem.W.callWith_K (h₀ := X.base) I.ok.mod.kin kC (thn (ha.run pos' pins s σ H _ I hh) fun us s1 ⟨vs, H1, I1, r1, hz, hz2, q1⟩ => ⟨I1.kIn, ?_⟩) he hpl
    exact mkE_run c0 h I1 b1 b2 r1 (by show us.length ≤ 1000; rw [← r1.length]; exact hz2) hz q1 hj
  · intro Ds σ H ⟨g, e, M, R, hh⟩
    refine ⟨g, e, M, R, (PostS.bind (σ := σ) hh).mono fun ds e1 M1 eq k1 vs H1 g1 N1 R1 r => ?_⟩
    have ld : ds.length = (a :: es).length := hl _ _ _ _ _ eq
    have lv := r.length
    have q2 : IsL G g1 H1 (ds ++ dd) (vs ++ dv) := IsL.append r (b3 g1 H1)
    refine ⟨by rw [← q2.length, List.length_append, ld]; exact hlen, by rw [← lv, ld]; exact Nat.le_of_ble_eq_true hfew, fun d H' hd1 e2 sm w => ?_⟩
    have N2 := R1.toHRel.grows w
    refine k1 σ H' g1 (.ref (G.ca c)) (some d) (N1.trans N2) (R1.grow w) ⟨rfl, _, e2, ?_⟩
    refine lookup_zip_rev h.nd (q2.next N2) (by rw [List.length_append, ld]; exact hlen) _ fun f y hf => ?_
    have nd2 : ((((fl.map G.fld).zip (vs ++ dv)).reverse).map (·.1)).Nodup := by
      rw [List.map_reverse, map_fst_zip' (by rw [← q2.length, List.length_append, ld, List.length_map]; exact hlen)]
      exact (List.reverse_perm _).nodup_iff.mpr h.nd
    exact lookup_nodup nd2 (List.mem_reverse.mpr hf)
theorem okRaiseF0 (c0 : XI X G W k) (h : KnE X.prog X.w G X.mg X.base c x fl ps f fd) {dd : List PI.D} (b : Bd G fd ps dd) (hlen : dd.length = fl.length := by rfl) (hj : 2 ≤ k := by omega)
    (hg : Gl X x := by rfl) (hdb : (x == ("__debug__" : Str)) = false := by decide) : PSI X G W (.Raise (some (.Call (.Name x p) [] [] pos')) none pos) (sRaiseF c fl dd eNil) := by
  obtain ⟨dvs, dv, b1, b2, b3⟩ := b
  rw [← c0.K] at b1
  refine PS.imp (L2N.ps_raise c0.calm c0.tk (t := fun σ H Q => dv.length = fl.length ∧ ∀ d H', H d = none → H' d = some (.xd ((fl.map G.fld).zip dv).reverse) → (∀ b, b ≠ d → H b = none ∨ H' b = H b) → Grow H H' → Q (.ref (G.ca c)) (some d) H') ?_) ?_
  · intro pins s σ H Q I hh
    refine wpAny_Call_Name_kw (ld_glob I hg h.m ?_ hdb)
    have kC := h.T.kC
    rw [← c0.K] at kC
    refine PySem.W.callWith_K0 I.kIn kC ?_
    exact mkE_run c0 h (vs := []) I b1 b2 .nil (Nat.zero_le _) hh.1 hh.2 hj
  · intro Ds σ H ⟨g, e, M, R, hh⟩
    have q2 : IsL G g H dd dv := b3 g H
    refine ⟨by rw [← q2.length]; exact hlen, fun d H' hd1 e2 sm w => ?_⟩
    have N2 := R.toHRel.grows w
    have hh : ∀ (σ' : St) (H' : Hp) (g' : Gs) (cls : Value) (d : Option Addr), Next g H g' H' → Rel G g' σ' H' e M → XIs G g' H' cls d ⟨c, fl.zip dd⟩ → W cls d σ' H' := hh
    refine hh σ H' g (.ref (G.ca c)) (some d) N2 (R.grow w) ⟨rfl, _, e2, ?_⟩
    refine lookup_zip_rev h.nd (q2.next N2) hlen _ fun f y hf => ?_
    have nd2 : ((((fl.map G.fld).zip dv).reverse).map (·.1)).Nodup := by
      rw [List.map_reverse, map_fst_zip' (by rw [← q2.length, List.length_map]; exact hlen)]
      exact (List.reverse_perm _).nodup_iff.mpr h.nd
    exact lookup_nodup nd2 (List.mem_reverse.mpr hf)
/-- try: body, except C: return d -/
theorem okTryN {n : Nat} {sub : Nat → Bool} {CA : Addr} {cx : Str} (c0 : XI X G W k) (hcN : X.mg cx = some (.ref CA)) (hsub : SubOk G n CA sub) {m : EM Fl} {body : List Stmt} {np p4 pos' : Pos} {e : Expr} {v : V} {d : PI.D}
    (hb : ∀ (pns : List (Addr × Obj)) (xe : Value → Shared → Prop) (W' : WX), XI (X.tr pns xe) G W' k → PSsI (X.tr pns xe) G W' body m) (he : ∀ Y : Cx, PE Y e (tC v)) (hd : ∀ g H, Is G g H d v)
    (hs : X.stack = X.env :: X.outer := by rfl) (hf : X.env.frame = some X.env.locals := by rfl) (hgc : Gl X cx := by rfl) (hdc : (cx == ("__debug__" : Str)) = false := by decide) :
    PSI X G W (.Try body [.ExceptHandler (some (.Name cx np)) none [.Return (some e) p4] pos'] [] [] pos) (sTryN n sub d m) := by
  have tb := L2N.ps_try_many (pos := pos) (h₀ := .ExceptHandler (some (.Name cx np)) none [.Return (some e) p4] pos') (hds := []) (tb := fun W' => tS G W' m) (Wout := W) hs hf c0.tk (fun W' pns xe tk po => hb pns xe W' (c0.tr tk po))
    (L2N.HdsOk.cons (np := np) (pos' := pos') (b₀ := .Return (some e) p4) (suite := []) (hds := []) (l := []) (ts := fun _ _ _ => tRet (tC v)) ⟨hgc, hdc, .inl hcN⟩ (fun a oe cls dd pns _ _ => pss_one (ps_ret (he _))) L2N.HdsOk.nil)
  refine ⟨fun pins s σ H D I ⟨g, e0, M, R, q⟩ => tb.run pins s σ H D I ⟨g, e0, M, R, ?_⟩⟩
  have q : PostS G W g H D (tryN n sub d (m e0 M)) := q
  cases hr : m e0 M with
  | stuck => rw [hr] at q; exact q
  | ok fl e1 M1 =>
    rw [hr] at q
    cases fl <;> exact q
  | err x e1 M1 =>
    rw [hr] at q
    have q : PostS G W g H D (if x.c < n then (if sub x.c = true then .ok (.ret (.val d)) e1 M1 else .err x e1 M1) else .stuck) := q
    by_cases hlt : x.c < n
    · rw [if_pos hlt] at q
      intro σ' H' g' cls dd N' R' xi
      obtain ⟨ec, xd⟩ := xi
      subst ec
      refine ⟨sub x.c, by rw [c0.K]; exact hsub.ok x.c hlt, fun hsb a ha => ?_, fun hsb => ?_⟩
      · rw [if_pos hsb] at q
        exact q v H' g' N' R'.toHRel (hd g' H')
      · rw [if_neg (by rw [hsb]; exact Bool.false_ne_true)] at q
        exact q σ' H' g' _ dd N' R' ⟨rfl, xd⟩
    · rw [if_neg hlt] at q
      exact False.elim q
end
end PI
set_option maxHeartbeats 1000000
/-! PISndTg: an except suite of simple expressions. -/
namespace PI
open PySem PySem.Spec PyProof.Rows L2
section
variable {X : Cx} {G : Ga} {W : WX} {k n : Nat} {CA : Addr} {nm cx : Str} {sub : Nat → Bool} {i : Nat}
theorem hG_mk {N i : Nat} {hb : EM Fl} {x : Xn} {d : D} (h : hG N i hb x = some d) : d.okR = true ∧ ∃ e', hb ((List.replicate N (none : Option SV)).set i (some (.val (.exn x.c x.fs)))) [] = .ok (.ret (.val d)) e' [] := by
  unfold hG at h
  split at h
  · rename_i d' e' heq
    split at h
    · cases h
      exact ⟨by assumption, e', heq⟩
    · cases h
  · cases h
end
end PI
set_option maxHeartbeats 1000000
/-! PITryG: try with any number of except clauses, each of one class or of two, with or without a name. -/
namespace PI
open PySem PySem.Spec PyProof.Rows L2
/-- one clause: what it tests, the slot of its name, what its suite wishes -/
structure Cl where
  t : Value → Option Bool
  i : Option Nat
  ts : Addr → Value → Option Addr → TS
def putO (i : Option Nat) (σ : St) (v : Option V) : St := match i with
  | none => σ
  | some i => σ.set i v
def endO (i : Option Nat) (D : Ends) : Ends := match i with
  | none => D
  | some i => { nx := fun σ' H' => D.nx (σ'.set i none) H', rt := D.rt, bk := fun σ' H' => D.bk (σ'.set i none) H', ct := fun σ' H' => D.ct (σ'.set i none) H' }
def wGen (Wout : WX) (D : Ends) : List Cl → WX
  | [] => Wout
  | q :: r => fun cls d σ H => ∃ b, q.t cls = some b ∧ (b = true → ∀ a, H a = none → q.ts a cls d (endO q.i D) (putO q.i σ (some (.ref a))) H) ∧ (b = false → wGen Wout D r cls d σ H)
/-- a clause's class expression -/
inductive TestOk (X : Cx) : Expr → (Value → Option Bool) → Prop
  | one {x : Str} {c : Value} {np : Pos} (hc : Names X x c) : TestOk X (.Name x np) (fun cls => PySem.W.exmOne X.K cls c)
  | two {x1 x2 : Str} {c1 c2 : Value} {p1 p2 pos : Pos} {k : Nat} (h1 : Names X x1 c1) (h2 : Names X x2 c2) : TestOk X (.Tuple [.Name x1 p1, .Name x2 p2] k pos) (fun cls => PySem.W.exmAny X.K cls [c1, c2])
inductive HdsG (X : Cx) : List ExceptHandler → List Cl → Prop
  | nil : HdsG X [] []
  | plain {e : Expr} {t : Value → Option Bool} {ts : Addr → Value → Option Addr → TS} {b₀ : Stmt} {suite : List Stmt} {pos' : Pos} {hds : List ExceptHandler} {l : List Cl} (hc : TestOk X e t)
      (hsu : ∀ (a : Addr) (oe : Obj) (cls : Value) (d : Option Addr) (pn : List (Addr × Obj)), L2N.Zn cls d oe → (∃ vs, oe.data = .fields vs) → PSs (X.suite a ((a, oe) :: pn)) (b₀ :: suite) (ts a cls d)) (r : HdsG X hds l) :
      HdsG X (.ExceptHandler (some e) none (b₀ :: suite) pos' :: hds) (⟨t, none, ts⟩ :: l)
  | named {e : Expr} {t : Value → Option Bool} {n : Str} {i : Nat} {ts : Addr → Value → Option Addr → TS} {b₀ : Stmt} {suite : List Stmt} {pos' : Pos} {hds : List ExceptHandler} {l : List Cl} (hi : X.N[i]? = some n) (hln : X.env.kindOf n = some .local) (hc : TestOk X e t)
      (hsu : ∀ (a : Addr) (oe : Obj) (cls : Value) (d : Option Addr) (pn : List (Addr × Obj)), L2N.Zn cls d oe → (∃ vs, oe.data = .fields vs) → PSs (X.suite a ((a, oe) :: pn)) (b₀ :: suite) (ts a cls d)) (r : HdsG X hds l) :
      HdsG X (.ExceptHandler (some e) (some n) (b₀ :: suite) pos' :: hds) (⟨t, some i, ts⟩ :: l)
end PI
set_option maxHeartbeats 1000000
/-! PISndTh: try with any number of except clauses: soundness. -/
namespace PI
open PySem PySem.Spec PyProof.Rows L2
/-- the suite's wish -/
def teO (G : Ga) (n : Nat) (hw : Xn → Option D) (oi : Option Nat) (a : Addr) (cls : Value) (d : Option Addr) : TE := fun σ H Q => (∀ i, oi = some i → σ[i]? = some (some (.ref a))) ∧ ∃ (x : Xn) (g : Gs) (r : D), cls = .ref (G.ca x.c) ∧ x.c < n ∧ XfH G g H x d ∧ limF false 0 x.fs = true ∧ hw x = some r ∧ ∀ v H', Grow H H' → (∀ g', Is G g' H' r v) → Q v H'
section
variable {X : Cx} {G : Ga} {W : WX} {k n : Nat} {CA CB : Addr} {cx cy : Str} {sub sub2 : Nat → Bool}
theorem suiteO (c : XI X G W k) {hb : EM Fl} {body : List Stmt} (oi : Option Nat) (a : Addr) (oe : Obj) (cls : Value) (d : Option Addr) (pns : List (Addr × Obj)) (hz : L2N.Zn cls d oe) (hf : ∃ vs, oe.data = .fields vs)
    (h : ∀ x : Xn, HotX G x (a, oe) d → x.c < n → XJ (X.suite a ((a, oe) :: pns)) (gaX G x (a, oe) d) W0 → PSsI (X.suite a ((a, oe) :: pns)) (gaX G x (a, oe) d) W0 body hb) :
    PSs (X.suite a ((a, oe) :: pns)) body (tRet (teO G n (hG X.N.length (oi.getD X.N.length) hb) oi a cls d)) := by
  refine ⟨fun pins s σ H D I hh => ?_⟩
  obtain ⟨hσ, x, g0, r, rfl, hlt, hxf, hlim, hw', hQ⟩ := hh
  obtain ⟨hR, e', eb⟩ := hG_mk hw'
  have cj : XJ (X.suite a ((a, oe) :: pns)) (gaX G x (a, oe) d) W0 :=
    ⟨c.K, c.nd, ⟨c.room.dp, c.room.un⟩, c.gd, fun _ _ x => by obtain ⟨_, _, _, _, _, _, _, _, _, _, _, _, _, _, _, _, z⟩ := x; exact z, PassesOwn.never⟩
  have hx : HotX G x (a, oe) d := ⟨hz, hf⟩
  have hl : σ.length = X.N.length := I.len
  refine (h x hx hlt cj).run pins s σ H D I ⟨⟨fun a => ∃ o, H a = some o, []⟩, (List.replicate X.N.length (none : Option SV)).set (oi.getD X.N.length) (some (.val (.exn x.c x.fs))), [], ?_, ?_⟩
  · have at_ : ∀ {j : Nat} {w : SV}, ((List.replicate X.N.length (none : Option SV)).set (oi.getD X.N.length) (some (.val (.exn x.c x.fs))))[j]? = some (some w) → oi = some j ∧ w = .val (.exn x.c x.fs) := fun {j w} hj => by
      have hjl := (List.getElem?_eq_some_iff.mp hj).1
      rw [List.length_set, List.length_replicate] at hjl
      by_cases e : oi.getD X.N.length = j
      · rw [e, List.getElem?_set_self (by simpa using hjl)] at hj
        cases hj
        refine ⟨?_, rfl⟩
        cases oi with
        | none => exact absurd e (Nat.ne_of_gt hjl)
        | some i => exact congrArg some e
      · rw [List.getElem?_set_ne e, List.getElem?_replicate] at hj
        split at hj <;> cases hj
    refine ⟨⟨fun a h => h, rfl, .nil, fun a h => (nomatch h), fun n a o h1 h2 => by simp at h2⟩, by simp [hl], fun j w hj => ?_, fun j w hj => ?_, fun j j' b w w' hj => ?_⟩
    · obtain ⟨e1, e2⟩ := at_ hj
      cases e2
      refine ⟨.ref a, hσ j e1, ?_⟩
      simp only [Is]
      refine ⟨a, d, rfl, ⟨rfl, rfl, rfl⟩, ?_⟩
      cases d with
      | none => exact .inl ⟨rfl, hxf⟩
      | some dd =>
        obtain ⟨vfs, e1, e2⟩ := hxf
        exact .inr ⟨dd, vfs, rfl, e1, e2.okR gaX_eq hlim⟩
    · have := (at_ hj).2
      cases this
    · have := (at_ hj).2
      cases this
  · rw [eb]
    intro v H' g' N' R' sv
    have sv : Is (gaX G x (a, oe) d) g' H' r v := sv
    exact hQ v H' (fun b o e => (N'.kZ b ⟨o, e⟩).trans e) fun g2 => sv.okR gaX_eq' hR
/-- a clause's class expression and which classes it catches -/
inductive SubT (X : Cx) (G : Ga) (n : Nat) : Expr → (Value → Option Bool) → (Nat → Bool) → Prop
  | one {x : Str} {CA : Addr} {np : Pos} {sub : Nat → Bool} (hcN : X.mg x = some (.ref CA)) (hsub : SubOk G n CA sub) (hgc : Gl X x := by rfl) (hdc : (x == ("__debug__" : Str)) = false := by decide) :
      SubT X G n (.Name x np) (fun cls => PySem.W.exmOne X.K cls (.ref CA)) sub
  | two {x1 x2 : Str} {C1 C2 : Addr} {p1 p2 pos : Pos} {kk : Nat} {s1 s2 : Nat → Bool} (h1 : X.mg x1 = some (.ref C1)) (hs1 : SubOk G n C1 s1) (h2 : X.mg x2 = some (.ref C2)) (hs2 : SubOk G n C2 s2)
      (hg1 : Gl X x1 := by rfl) (hd1 : (x1 == ("__debug__" : Str)) = false := by decide) (hg2 : Gl X x2 := by rfl) (hd2 : (x2 == ("__debug__" : Str)) = false := by decide) :
      SubT X G n (.Tuple [.Name x1 p1, .Name x2 p2] kk pos) (fun cls => PySem.W.exmAny X.K cls [.ref C1, .ref C2]) (fun j => s1 j || s2 j)
theorem SubT.test {e : Expr} {t : Value → Option Bool} (h : SubT X G n e t sub) : TestOk X e t := by
  cases h with
  | one a b c d => exact .one ⟨c, d, .inl a⟩
  | two a b c d e f g h => exact .two ⟨e, f, .inl a⟩ ⟨g, h, .inl c⟩
theorem SubT.tells {e : Expr} {t : Value → Option Bool} (hK : X.K = G.K) (h : SubT X G n e t sub) {j : Nat} (hj : j < n) : t (.ref (G.ca j)) = some (sub j) := by
  cases h with
  | one a b c d =>
    show PySem.W.exmOne X.K _ _ = _
    rw [hK]; exact b.ok j hj
  | two a b c d =>
    show PySem.W.exmAny X.K _ _ = _
    rw [hK]
    simp only [PySem.W.exmAny, b.ok j hj, d.ok j hj, Bool.or_false]
inductive HxsOk (X : Cx) (G : Ga) (n : Nat) : List ExceptHandler → List Hx → List Cl → Prop
  | nil : HxsOk X G n [] [] []
  | plain {e : Expr} {t : Value → Option Bool} {sub : Nat → Bool} {hb : EM Fl} {b₀ : Stmt} {suite : List Stmt} {pos' : Pos} {hds : List ExceptHandler} {l : List Hx} {cl : List Cl} {N : Nat} (hsub : SubT X G n e t sub)
      (h : ∀ (a : Addr) (oe : Obj) (d : Option Addr) (pns : List (Addr × Obj)) (x : Xn), HotX G x (a, oe) d → x.c < n → XJ (X.suite a ((a, oe) :: pns)) (gaX G x (a, oe) d) W0 → PSsI (X.suite a ((a, oe) :: pns)) (gaX G x (a, oe) d) W0 (b₀ :: suite) hb)
      (r : HxsOk X G n hds l cl) (hN : X.N.length = N := by rfl) :
      HxsOk X G n (.ExceptHandler (some e) none (b₀ :: suite) pos' :: hds) (⟨sub, none, hG N N hb⟩ :: l) (⟨t, none, fun a cls d => tRet (teO G n (hG N N hb) none a cls d)⟩ :: cl)
  | named {e : Expr} {t : Value → Option Bool} {sub : Nat → Bool} {hb : EM Fl} {b₀ : Stmt} {suite : List Stmt} {pos' : Pos} {hds : List ExceptHandler} {l : List Hx} {cl : List Cl} {N i : Nat} {nm : Str} (hsub : SubT X G n e t sub)
      (h : ∀ (a : Addr) (oe : Obj) (d : Option Addr) (pns : List (Addr × Obj)) (x : Xn), HotX G x (a, oe) d → x.c < n → XJ (X.suite a ((a, oe) :: pns)) (gaX G x (a, oe) d) W0 → PSsI (X.suite a ((a, oe) :: pns)) (gaX G x (a, oe) d) W0 (b₀ :: suite) hb)
      (r : HxsOk X G n hds l cl) (hN : X.N.length = N := by rfl) (hi : X.N[i]? = some nm := by rfl) (hln : X.env.kindOf nm = some .local := by rfl) :
      HxsOk X G n (.ExceptHandler (some e) (some nm) (b₀ :: suite) pos' :: hds) (⟨sub, some i, hG N i hb⟩ :: l) (⟨t, some i, fun a cls d => tRet (teO G n (hG N i hb) (some i) a cls d)⟩ :: cl)
theorem HxsOk.hds (c : XI X G W k) {hds : List ExceptHandler} {l : List Hx} {cl : List Cl} (h : HxsOk X G n hds l cl) : HdsG X hds cl := by
  induction h with
  | nil => exact .nil
  | plain hsub h r hN ih =>
    subst hN
    exact .plain hsub.test (fun a oe cls d pns hz hd => suiteO c none a oe cls d pns hz hd fun x hx hlt cj => h a oe d pns x hx hlt cj) ih
  | @named e t sub hb b₀ suite pos' hds l cl N i nm hsub h r hN hi hln ih =>
    subst hN
    exact .named hi hln hsub.test (fun a oe cls d pns hz hd => suiteO c (some i) a oe cls d pns hz hd fun x hx hlt cj => h a oe d pns x hx hlt cj) ih
theorem HxsOk.wish (c : XI X G W k) {hds : List ExceptHandler} {l : List Hx} {cl : List Cl} (h : HxsOk X G n hds l cl) {x : Xn} (hlt : x.c < n) {g g' : Gs} {H H' : Hp} {De : Ends} {σ' : St} {e1 : Env} {M1 : MH} {d : Option Addr} (N' : Next g H g' H') (R' : Rel G g' σ' H' e1 M1)
    (xd : XfH G g' H' x d) (q : PostS G W g H De (tryP x e1 M1 l)) : wGen W De cl (.ref (G.ca x.c)) d σ' H' := by
  have hres : ∀ {w : Xn → Option D} {oi : Option Nat} {y : Res Fl}, PostS G W g H De (if (limF false 0 x.fs && okO oi e1) = true then (match w x with
      | some d => .ok (.ret (.val d)) e1 M1
      | none => .stuck) else .stuck) → ∀ a, H' a = none → tRet (teO G n w oi a (.ref (G.ca x.c)) d) (endO oi De) (putO oi σ' (some (.ref a))) H' := by
    intro w oi y q a ha
    by_cases hfe : (limF false 0 x.fs && okO oi e1) = true
    case neg => rw [if_neg hfe] at q; exact False.elim q
    rw [if_pos hfe] at q
    obtain ⟨hf1, hf2⟩ := Bool.and_eq_true_iff.mp hfe
    cases hh : w x with
    | none => rw [hh] at q; exact False.elim q
    | some r =>
      rw [hh] at q
      have hrt : (endO oi De).rt = De.rt := by cases oi <;> rfl
      refine ⟨fun i hi => ?_, x, g', r, rfl, hlt, xd, hf1, hh, fun v H2 w is => ?_⟩
      · subst hi
        have il : i < σ'.length := by
          rw [← R'.el]
          exact of_decide_eq_true hf2
        exact List.getElem?_set_self il
      · have q' := q v H2 g' (N'.trans (R'.toHRel.grows w)) (R'.grow w).toHRel (is g')
        rw [← hrt] at q'
        exact q'
  induction h with
  | nil => exact q σ' H' g' _ d N' R' ⟨rfl, by cases d <;> exact xd⟩
  | @plain e t sub hb b₀ suite pos' hds l cl N hsub h r hN ih =>
    refine ⟨sub x.c, hsub.tells c.K hlt, fun hsb => ?_, fun hsb => ?_⟩
    · have q : PostS G W g H De (if sub x.c = true then _ else _) := q
      rw [if_pos hsb] at q
      exact hres (y := .stuck) q
    · have q : PostS G W g H De (if sub x.c = true then _ else tryP x e1 M1 l) := q
      rw [if_neg (by rw [hsb]; exact Bool.false_ne_true)] at q
      exact ih q
  | @named e t sub hb b₀ suite pos' hds l cl N i nm hsub h r hN hi hln ih =>
    refine ⟨sub x.c, hsub.tells c.K hlt, fun hsb => ?_, fun hsb => ?_⟩
    · have q : PostS G W g H De (if sub x.c = true then _ else _) := q
      rw [if_pos hsb] at q
      exact hres (y := .stuck) q
    · have q : PostS G W g H De (if sub x.c = true then _ else tryP x e1 M1 l) := q
      rw [if_neg (by rw [hsb]; exact Bool.false_ne_true)] at q
      exact ih q
end
end PI
/-! PISndT: a list against the empty list. -/
namespace PI
open PySem PySem.Spec PyProof.Rows L2
section
theorem list_nil {X : Cx} {G : Ga} {W : WX} (c : XJ X G W) {pins : List (Addr × Obj)} {s : Shared} {σ : St} {H : Hp} {g : Gs} {ds : List D} {v1 v2 : V} {rx ry : Value} (I : Inv X pins σ H s) (v1h : Vw G g H (.lst ds) v1) (v2h : Vw G g H (.lst []) v2) (hx : RelV v1 rx) (hy : RelV v2 ry) :
    ∃ (a b : Addr) (its : Array Value), rx = .ref a ∧ ry = .ref b ∧ s.heap.IsList a its ∧ s.heap.IsList b #[] ∧ (its.size = 0 ↔ ds = []) := by
  obtain ⟨a, vs, rfl, q1, r1⟩ := vw_lst v1h
  obtain ⟨b, ws, rfl, q2, r2⟩ := vw_lst v2h
  cases hx
  cases hy
  rw [← c.K] at q1 q2
  obtain ⟨its, rv, ht, hz⟩ := I.list q1
  obtain ⟨its2, rv2, ht2, hz2⟩ := I.list q2
  have l2 : ws = [] := by
    cases ws with
    | nil => rfl
    | cons _ _ => simp only [IsL] at r2
  subst l2
  have l3 : its2 = [] := by cases rv2; rfl
  subst l3
  have isl : ∀ (a : Addr) (its : Array Value), PlainL s.heap a its → s.heap.IsList a its := fun _ _ ⟨o, n, ho, hc, _, hd⟩ => ⟨o, ho, hc, n, hd⟩
  refine ⟨a, b, its.toArray, rfl, rfl, isl _ _ ht, isl _ _ ht2, ?_⟩
  have h1 := r1.length
  have h2 := rv.length
  cases ds with
  | nil =>
    have : its = [] := List.eq_nil_of_length_eq_zero (by simp at h1; omega)
    subst this
    simp
  | cons d ds =>
    cases its with
    | nil => exact absurd (h1.trans h2) (by simp)
    | cons _ _ => simp
theorem ok_neM {X : Cx} {G : Ga} {W : WX} (c : XJ X G W) : OpR X (compareOp .NotEq) (rCm G fNeM) := by
  intro pins s σ H x y v u Q I rx ry ⟨g, M, d1, d2, r, R, v1, v2, e, q⟩
  unfold fNeM at e
  cases e0 : fNe d1 d2 with
  | some r0 =>
    rw [e0] at e
    cases e
    exact ok_ne c pins s σ H x y v u Q I rx ry ⟨g, M, d1, d2, r, R, v1, v2, e0, q⟩
  | none =>
    rw [e0] at e
    simp only at e
    split at e
    · rename_i ds
      cases e
      obtain ⟨a, b, its, rfl, rfl, ha, hb, hz⟩ := list_nil c I v1 v2 rx ry
      have hu := c.room.units
      have rc : SeqAt.RcNeAt X.A s (.ref a) (.ref b) (!ds.isEmpty) := by
        cases ds with
        | nil =>
          have h0 := hz.mpr rfl
          have := SeqAt.RcNeAt.lists (A := X.A) (e := fun _ => true) ha hb h0 (by omega) (fun j h1 h2 => by simp at h2)
          rw [h0] at this
          exact this
        | cons d ds =>
          have h0 : its.size ≠ 0 := fun z => by cases hz.mp z
          exact SeqAt.RcNeAt.lists_lengths (A := X.A) ha hb (by simpa using h0) (by omega)
      exact rc X.prog X.w _ _ ⟨.bl _, H, I, rfl, q⟩
    · cases e
end
end PI
/-! PISndDa: dict(x), d.pop. -/
namespace PI
open PySem PySem.Spec PyProof.Rows L2
section
variable {X : Cx} {G : Ga} {W : WX} {k : Nat} {g : Gs} {H : Hp} {pins : List (Addr × Obj)} {σ : St} {s : Shared}
theorem isK_fstX {g : Gs} {H : Hp} : ∀ {kvs : List (D × D)} {ks : List (Key × V)}, IsK G g H kvs ks → IsL G g H (kvs.map (·.1)) (ks.map fun kv => kV kv.1)
  | [], [], _ => by simp only [List.map_nil, IsL]
  | (_, _) :: r, (_, _) :: s, h => by
    simp only [IsK] at h
    simp only [List.map_cons, IsL]
    exact ⟨h.1, isK_fstX h.2.2⟩
  | [], _ :: _, h => by simp only [IsK] at h
  | (_, _) :: _, [], h => by simp only [IsK] at h
theorem ok_listX (c : XI X G W k) : CallR X (.type "list") (rB G fListX) := by
  intro pins s σ H xs us Q I r ⟨g, M, ds, rr, R, w, e, q⟩
  unfold fListX at e
  split at e
  · split at e
    · rename_i hk
      cases e
      obtain ⟨v, rfl, h⟩ := vwl1 w
      obtain ⟨a, rfl, ks, hd, il⟩ := vw_dicK hk h
      exact call_listD c.calm pins s σ H _ us Q I r ⟨a, ks, rfl, hd, fun p hp => q _ _ (Grow.upd hp) ⟨p, rfl, hp, _, upd_same, (isK_fstX il).next (R.grows (Grow.upd hp))⟩⟩
    · cases e
  · exact ok_list c.toXJ pins s σ H xs us Q I r ⟨g, M, _, rr, R, w, e, q⟩
/-! d.pop -/
end
end PI
/-! PISndDb: min(xs, default=n), list(d.values()), list(d.items()). -/
namespace PI
open PySem PySem.Spec PyProof.Rows L2
end PI
namespace PI
/-- the script as my value -/
def scriptD (ns : List Int) : D := .lst (ns.map D.int)
end PI
/-! PIEnd: a law's end: the law's def answers True by my function. -/
namespace PI
open PySem PySem.Spec PyProof.Rows L2
theorem isL_ints {G : Ga} {g : Gs} {H : Hp} : ∀ ns : List Int, IsL G g H (ns.map D.int) (ns.map V.int)
  | [] => by simp [IsL]
  | n :: ns => by
    simp only [List.map_cons, IsL]
    exact ⟨by simp only [Is], isL_ints ns⟩
section
variable {P : Program} {w : World} {G : Ga} {mg mb : Str → Option Value} {k : Nat} {fa a : Addr} {fd : FuncData} {x : Str} {sem : FT} {s : Shared} {us : List Value} {ns : List Int}
/-- the law's def, called with the script -/
theorem lawI (inK : G.K.In s.heap) (n1 : s.heap.Ns mainGlobals mg) (n2 : s.heap.Ns builtinsNs mb) (n3 : ∀ x : Str, x ≠ "__name__" → mb x = bootBuiltins x) (lim : s.heap.NoLimit) (noG : s.gens = #[])
    (at' : s.heap.get? a = some { cls := .type "list", data := .seq us.toArray }) (are : IntsAre us ns) (few : ns.length ≤ sizeLine) (room : Room k callerA ∧ callerA.guards = some [])
    (F : ∀ base : Heap, G.K.In base → base.Ns mainGlobals mg → FnI P w G mg base k fa fd [x] sem) (bind : ∀ (s : Shared) (u : Value), BindsTo s fd ⟨[u], []⟩ [(x, u)])
    (good : ∃ M, sem [scriptD ns] [] = .ok (.val (.bl true)) M) :
    codeAny (model P w) callerA (.call (.ref fa) ⟨[.ref a], []⟩) (fun r s' => r = .ok (.ret (.bool true)) ∧ OldK s.heap s'.heap ∧ s'.os = s.os ∧ AllBare s'.gens) s := by
  have rv := vals_ints are
  have main : ∀ H : Hp, Only H → LF H G.K a (ns.map V.int) → HOk P w H s.heap → (∀ b, H b ≠ none → b = a) → (H a ≠ none → G.K.lookup a = none) →
      codeAny (model P w) callerA (.call (.ref fa) ⟨[.ref a], []⟩) (fun r s' => r = .ok (.ret (.bool true)) ∧ OldK s.heap s'.heap ∧ s'.os = s.os ∧ AllBare s'.gens) s := by
    intro H only lf ok sole fresh
    have under : ∀ {b : Addr} {o : Obj}, s.heap.get? b = some o → H b = none → (hidT s.heap H).get? b = some o := fun e n => hidT_get e n
    have free : ∀ {b : Addr} {o : Obj} {es : Array DictEntry} {ep : Nat}, s.heap.get? b = some o → o.data = .dict es ep → H b = none := fun {b o es ep} e d => by
      cases q : H b with
      | none => rfl
      | some u =>
        obtain rfl : b = a := sole b (by rw [q]; exact fun z => nomatch z)
        rw [at'] at e
        cases e
        exact nomatch (show Data.seq us.toArray _ = Data.dict es ep from d)
    have names : ∀ {b : Addr} {m : Str → Option Value}, s.heap.Ns b m → (hidT s.heap H).Ns b m := fun {b m} ⟨o, es, ep, e, d, r⟩ => ⟨o, es, ep, under e (free e d), d, r⟩
    have kin : G.K.In (hidT s.heap H) := fun b o e => under (inK b o e) (by
      cases q : H b with
      | none => rfl
      | some u =>
        obtain rfl : b = a := sole b (by rw [q]; exact fun z => nomatch z)
        rw [fresh (by rw [q]; exact fun z => nomatch z)] at e
        cases e)
    have md : Mod G.K mg (hidT s.heap H) := ⟨kin, names n1, ⟨mb, names n2, n3⟩, let ⟨mc, h1, h2⟩ := lim; ⟨mc, names h1, h2⟩⟩
    have env : Env0 P w G.K mg (hidT s.heap H) callerA [] s H := ⟨rfl, md, fun b o e => of_hidT e, Nat.le_of_eq (hidT_size _ _), trivial, fun b hb => absurd (show b ∈ ([] : List Addr) from hb) (by simp), ok, .of_eq noG⟩
    obtain ⟨M, hM⟩ := good
    have start : SpI G 1 sem [.ref a] H (fun v _ => v = .bl true) fun _ _ _ => False := by
      refine ⟨⟨fun b => ∃ o, H b = some o, []⟩, [scriptD ns], [], ⟨fun b h => h, rfl, List.nodup_nil, fun b hb => (nomatch hb), fun n b o h1 h2 => by simp at h1⟩, fun b h _ => h, ?_, rfl, ?_⟩
      · simp only [IsL]
        refine ⟨?_, trivial⟩
        show Is G _ H (.lst (ns.map D.int)) (.ref a)
        simp only [Is]
        exact ⟨a, _, rfl, lf, isL_ints ns⟩
      · rw [hM]
        exact fun v H' g' N R r => r
    refine codeAny_mono ((F _ kin (names n1)).run callerA [] s H ⟨[.ref a], []⟩ [.ref a] [.ref a] _ _ ⟨room.1, fun _ => room.2, _, room.2⟩ env (bind s (.ref a)) (.cons rfl .nil) start) fun r s' h => ?_
    cases r with
    | error e =>
      obtain ⟨_, _, _, _, _, _, _, _, _, _, _, _, z⟩ := h
      exact z.elim
    | ok fl =>
      cases fl with
      | next => exact h.elim
      | brk => exact h.elim
      | cont => exact h.elim
      | ret u =>
        obtain ⟨v, H', os, bare, un, hok', r', q⟩ := h
        obtain rfl : v = .bl true := q
        obtain rfl : u = Value.bool true := r'
        refine ⟨rfl, OldK.of_keep fun b o e => ?_, os, bare⟩
        cases q : H b with
        | none => exact un.keep b o e q (fun z => nomatch (show b ∈ ([] : List Addr) from z)) (by simp)
        | some u =>
          rcases only b with z | ⟨ob, xs, z⟩
          · rw [q] at z; cases z
          · obtain ⟨e1, _⟩ := ok b _ z
            obtain ⟨e2, _⟩ := hok' b _ (un.frzs b ob _ z)
            rw [e] at e1
            cases e1
            exact e2
  have lenU := are.length
  cases hk : G.K.lookup a with
  | some o =>
    have e := inK a o hk
    rw [at'] at e
    cases e
    exact main (fun _ => none) (fun _ => .inl rfl) (.inr ⟨us, _, hk, by rw [lenU]; exact few, rv⟩) (fun b u z => nomatch (show (none : Option HO) = some u from z)) (fun b z => absurd rfl z) fun z => absurd rfl z
  | none =>
    refine main (fun b => if b = a then some (.frz { cls := .type "list", data := .seq us.toArray } (.lst (ns.map V.int))) else none) (fun b => ?_) (.inl ⟨{ cls := .type "list", data := .seq us.toArray }, if_pos rfl⟩) (fun b u z => ?_) (fun b z => ?_) fun _ => hk
    · by_cases hb : b = a
      · exact .inr ⟨_, _, if_pos hb⟩
      · exact .inl (if_neg hb)
    · by_cases hb : b = a
      · subst hb
        cases (if_pos rfl).symm.trans z
        exact ⟨at', by rw [List.length_map]; exact few, us, _, rv, at'⟩
      · exact nomatch (if_neg hb).symm.trans z
    · by_cases hb : b = a
      · exact hb
      · exact absurd (if_neg hb) z
end
/-- a law by my function -/
theorem walkI {l : PySem.W.OpenLaw} {n k : Nat} {q : Program} {loose : List Str} {XP : (Str → Option Value) → Heap → Prop} {YP : World → Heap → Prop} {d : DefRec} {x : Str} {sem : FT}
    (hn : l.most = some n) (hn2 : n ≤ sizeLine) (hdf : d.params.defaults = []) (room : Room k callerA ∧ callerA.guards = some [])
    (F : ∀ (w : World) (mg : Str → Option Value) (fa : Addr) (h : Heap), YP w h → h.Ns mainGlobals mg → mg d.name = some (.ref fa) →
      ∃ (G : Ga) (fd : FuncData), G.K.In h ∧ (∀ (s : Shared) (u : Value), BindsTo s fd ⟨[u], []⟩ [(x, u)]) ∧ ∀ base : Heap, G.K.In base → base.Ns mainGlobals mg → FnI l.prog w G mg base k fa fd [x] sem)
    (good : ∀ ns : List Int, ns.length ≤ n → ∃ M, sem [scriptD ns] [] = .ok (.val (.bl true)) M) :
    PySem.W.WalkO q loose XP YP l.row.toRowW d [] (fun f vs => PySem.call f vs) := by
  refine Att.attach_call hn hdf fun w s₀ s1 mg mb fa o pm cd doc a vs ns Gr Y ho hd hcd hmg hobj hints hlen hg => ?_
  obtain ⟨G, fd, inK, hb, hF⟩ := F w mg fa _ Y Gr.T.g hmg
  exact lawI inK Gr.T.g Gr.T.b Gr.T.builtins Gr.T.nolimit hg hobj hints (Nat.le_trans hlen hn2) room hF hb (good ns hlen)
end PI
/-! PIEndX: a hook with facts of one's own. -/
namespace PI
open PySem PySem.Spec PyProof.Rows L2
structure SaysX (fa : List He.Fa) (fn : List He.DefD) (xs : List (PySem.W.Frag → Bool)) (K : PySem.W.Frag) : Prop where
  d : He.SaysD fa fn K
  x : (xs.all fun b => b K) = true
theorem SaysX.fact {fa : List He.Fa} {fn : List He.DefD} {xs : List (PySem.W.Frag → Bool)} {K : PySem.W.Frag} (c : SaysX fa fn xs K) (i : Nat) {b : PySem.W.Frag → Bool} (h : xs[i]? = some b := by rfl) : b K = true :=
  List.all_eq_true.mp c.x b (List.mem_of_getElem? h)
/-! ### facts of exception classes -/
def exccB (K : PySem.W.Frag) (C : Addr) : Bool :=
  (He.eqO (PySem.W.findIn K (.ref C) "__getattribute__") (some (some (.builtin "BaseException.__getattribute__"))) && He.eqO (PySem.W.findIn K (.ref C) "__getattr__") (some none)) &&
  ((decide (PySem.W.subIn K (.ref C) (.type "BaseException") = some true) && PySem.W.hasDictIn K C) && ((He.eqO (PySem.W.findIn K (.ref C) "__class__") (some (some (.builtin "object.__class__"))) &&
  He.eqO (PySem.W.specialIn K (.builtin "object.__class__") "__get__") (some (some (.builtin "getset_descriptor.__get__")))) && (decide (PySem.W.takesIn K (.builtin "object.__class__") = some true) && decide (PySem.W.mroIn K C (.type "object") = some true))))
theorem exccB_ok {K : PySem.W.Frag} {C : Addr} (h : exccB K C = true) : ExcC K C := by
  unfold exccB at h
  simp only [Bool.and_eq_true] at h
  obtain ⟨⟨h1, h2⟩, ⟨h3, h4⟩, ⟨h5, h6⟩, h7, h8⟩ := h
  exact ⟨He.eqO_ok h1, He.eqO_ok h2, of_decide_eq_true h3, h4, He.eqO_ok h5, He.eqO_ok h6, of_decide_eq_true h7, of_decide_eq_true h8⟩
end PI
set_option maxHeartbeats 1000000
/-! PIOwn: == by a class's own __eq__. -/
namespace PI
open PySem PySem.Spec PyProof.Rows L2
section
variable {P : Program} {w : World} {G : Ga} {mg : Str → Option Value} {base : Heap} {k : Nat} {f : Addr} {fd : FuncData} {ps : List Str} {sem : FT}
theorem isL_okR {g g' : Gs} {H : Hp} {ds : List PI.D} {vs : List V} (h : limL false 0 ds = true) (q : IsL G g H ds vs) : IsL G g' H ds vs := IsL.turn (GaEq.refl false G) (fun n hn => absurd hn (Nat.not_lt_zero n)) h q
/-- a def that makes nothing, run ahead of all objects -/
theorem FnI.pure (F : FnI P w G mg base k f fd ps sem) {A : Around} {outer : List PySem.Env} {s : Shared} {H : Hp} {args : Args} {us : List Value} {vs : List V} {g : Gs} {ds : List PI.D} {d : PI.D} {Q : VK} (hr : RoomI G.pg k A) (e0 : Env0 P w G.K mg base A outer s H)
    (hb : BindsTo s fd args (ps.zip us)) (r : Vals vs us) (q : IsL G g H ds vs) (hn : ds.length = ps.length) (hl : limL false 0 ds = true) (hm : sem ds [] = .ok (.val d) []) (hd : d.okR = true) (hQ : ∀ v H', Grow H H' → (∀ g', Is G g' H' d v) → Q v H') :
    codeAny (model P w) A (.call (.ref f) args) (CR (L2N.CX P w) outer P w H s Q fun _ _ _ => False) s := by
  refine F.run A outer s H args us vs Q _ hr e0 hb r ⟨⟨fun a => ∃ o, H a = some o, []⟩, ds, [], ⟨fun a h => h, rfl, .nil, fun a h => (nomatch h), fun n a o h1 h2 => by simp at h2⟩, fun a h _ => h, isL_okR hl q, hn, ?_⟩
  rw [hm]
  intro v H' g' N R sv
  have sv : Is G g' H' d v := sv
  exact hQ v H' (fun a o e => (N.kZ a ⟨o, e⟩).trans e) fun g2 => sv.okR (GaEq.refl false G) hd
end
/-! ### the == of a class -/
/-- a class with an own == -/
structure KnQ (P : Program) (w : World) (G : Ga) (mg : Str → Option Value) (base : Heap) (k : Nat) (ci : Nat) (ps : List Str) (sem : FT) (f : Addr) (fd : FuncData) : Prop where
  at_ : PySem.W.findIn G.K (.ref (G.ca ci)) "__eq__" = some (some (.ref f))
  isf : PySem.W.isFn G.K (.ref f) = true
  bd : Binds G.K fd ps []
  two : ps.length = 2
  fn : FnI P w G mg base k f fd ps sem
theorem KnQ.mono {P : Program} {w : World} {G : Ga} {mg : Str → Option Value} {base : Heap} {j k ci : Nat} {ps : List Str} {sem : FT} {f : Addr} {fd : FuncData} (h : KnQ P w G mg base j ci ps sem f fd) (l : j ≤ k) : KnQ P w G mg base k ci ps sem f fd := ⟨h.at_, h.isf, h.bd, h.two, h.fn.mono l⟩
end PI
set_option maxHeartbeats 1000000
/-! PISndTi: soundness of PIBor. -/
namespace PI
open PySem PySem.Spec PyProof.Rows L2
end PI
set_option maxHeartbeats 1000000
/-! PISndTj: dicts compared; max of a dict; is None as a value. -/
namespace PI
open PySem PySem.Spec PyProof.Rows L2
end PI
set_option maxHeartbeats 1000000
/-! PISndTk: x, y = a, b with an object of one's own first, a name a cell. -/
namespace PI
open PySem PySem.Spec PyProof.Rows L2
end PI
set_option maxHeartbeats 1000000
/-! PISndTm: x or y of any things: soundness. -/
namespace PI
open PySem PySem.Spec PyProof.Rows L2
end PI
/-! PISrtJ: sorted(xs, key=f) where f's calls keep what a property J of the state tells (and the two lists that the sort has made). -/
namespace PI
open PySem PySem.Calls PyProof.Rows PySem.W
end PI
set_option maxHeartbeats 1000000
/-! PISrtK: sorted(xs, key=f): soundness. -/
namespace PI
open PySem PySem.Spec PyProof.Rows L2
end PI
set_option maxHeartbeats 1000000
/-! PISndTn: soundness of eBorE. -/
namespace PI
open PySem PySem.Spec PyProof.Rows L2
end PI
set_option maxHeartbeats 1000000
/-! PIOwn2: in, with a comparison that makes objects. -/
set_option maxHeartbeats 1000000
/-! PIOwn3: in by a class's own __eq__. -/
namespace PI
open PySem PySem.Spec PyProof.Rows L2
end PI
set_option maxHeartbeats 1000000
/-! PIOwn4: str and repr by a class's own. -/
namespace PI
open PySem PySem.Spec PyProof.Rows L2
theorem txtOf_mk {f : FT} {x : PI.D} {t : List Nat} (h : txtOf f x = some t) : f [x] [] = .ok (.val (.str t)) [] ∧ limL false 0 [x] = true := by
  unfold txtOf at h
  split at h
  · rename_i t' e
    split at h
    · cases h
      exact ⟨e, by assumption⟩
    · cases h
  · cases h
/-- a class with an own __str__, __repr__ -/
structure KnS (P : Program) (w : World) (G : Ga) (mg : Str → Option Value) (base : Heap) (k : Nat) (ci : Nat) (nm : Str) (ps : List Str) (sem : FT) (f : Addr) (fd : FuncData) : Prop where
  at_ : PySem.W.findIn G.K (.ref (G.ca ci)) nm = some (some (.ref f))
  isf : PySem.W.isFn G.K (.ref f) = true
  bd : Binds G.K fd ps []
  one : ps.length = 1
  fn : FnI P w G mg base k f fd ps sem
theorem KnS.mono {P : Program} {w : World} {G : Ga} {mg : Str → Option Value} {base : Heap} {j k ci : Nat} {nm : Str} {ps : List Str} {sem : FT} {f : Addr} {fd : FuncData} (h : KnS P w G mg base j ci nm ps sem f fd) (l : j ≤ k) : KnS P w G mg base k ci nm ps sem f fd := ⟨h.at_, h.isf, h.bd, h.one, h.fn.mono l⟩
def rBU (G : Ga) (f : List PI.D → Option SV) : List V → Hp → VK → Prop := fun vs H Q => ∃ g M ds r, HRel G g H M ∧ IsL G g H ds vs ∧ f ds = some r ∧ ∀ v H', Grow H H' → NewSV G g H H' v r → Q v H'
section
variable {X : Cx} {G : Ga} {W : WX} {k j ci : Nat} {nm : Str} {f : Addr} {fd : FuncData} {ps : List Str} {sem : FT} {g : Gs} {H : Hp} {es : List Expr} {pos : Pos}
/-- the own text is asked -/
theorem txt_run (hK : X.K = G.K) (h : KnS X.prog X.w G X.mg X.base j ci nm ps sem f fd) {A : Around} (hr : RoomI G.pg j A) (hfr : A.frames = X.A.frames) {pins : List (Addr × Obj)} {s : Shared} {σ : St} {a : Addr} {fs : List (Nat × PI.D)} {t : List Nat}
    (I : Inv X pins σ H s) (q1 : Is G g H (.ins ci fs) (.ref a)) (he : txtOf sem (.ins ci fs) = some t) {Q : Value → Shared → Prop} (hQ : ∀ s' H' tk, Inv X pins σ H' s' → Grow H H' → t.length ≤ sizeLine → Q (.str ⟨t.toArray⟩ tk) s') :
    wpAny (model X.prog X.w) A (call (.ref f) [.ref a]) (PySem.W.StrBack Q) X.xe s := by
  obtain ⟨e1, e2⟩ := txtOf_mk he
  have hb' := h.bd
  rw [← hK] at hb'
  have e0 : Env0 X.prog X.w G.K X.mg X.base A X.stack s H := by
    have e := I.env0
    rw [hK] at e
    exact ⟨by rw [hfr]; exact e.frames, e.mod, e.bs, e.bsz, e.funs, e.frf, e.hok, e.bare⟩
  have r2 : Vals [V.ref a] [Value.ref a] := .cons rfl .nil
  have q : IsL G g H [.ins ci fs] [V.ref a] := by
    simp only [IsL]
    exact ⟨q1, trivial⟩
  refine wpAny_call (codeAny_mono (h.fn.pure (Q := fun v' H' => v' = .str ⟨t.toArray⟩ ∧ t.length ≤ sizeLine ∧ Grow H H') hr e0 (by
    have := hb' s [.ref a] I.kIn (by rw [h.one]; rfl)
    simpa using this) r2 q (by rw [h.one]; rfl) e2 e1 rfl fun v' H' w qq => by
      have := qq g
      simp only [Is] at this
      exact ⟨this.1, this.2, w⟩) fun r s' hq => ?_)
  cases r with
  | error er =>
    obtain ⟨_, _, _, _, _, _, _, _, _, _, _, _, z⟩ := hq
    exact False.elim z
  | ok fl' =>
    cases fl' with
    | ret w' =>
      obtain ⟨z, H', I', rz, ez, lz, gw⟩ := I.after hq
      subst ez
      obtain ⟨tk, rfl⟩ := rz
      exact hQ s' H' tk I' gw lz
    | next => exact False.elim hq
    | brk => exact False.elim hq
    | cont => exact False.elim hq
theorem isL_vwL : ∀ {ds : List PI.D} {vs : List V}, IsL G g H ds vs → VwL G g H ds vs
  | [], [], _ => trivial
  | d :: ds, v :: vs, h => by
    simp only [IsL] at h
    exact ⟨.inl h.1, isL_vwL h.2⟩
  | [], _ :: _, h => by simp only [IsL] at h
  | _ :: _, [], h => by simp only [IsL] at h
theorem rb_of_rbu {f : List PI.D → Option SV} {v : Value} (h : CallR X v (rB G f)) : CallR X v (rBU G f) := fun pins s σ H xs us Q I r ⟨g, M, ds, rr, R, q, e, k⟩ => h pins s σ H xs us Q I r ⟨g, M, ds, rr, R, isL_vwL q, e, k⟩
theorem isl1 {d : PI.D} {vs : List V} (h : IsL G g H [d] vs) : ∃ v, vs = [v] ∧ Is G g H d v := by
  match vs, h with
  | [v], h => simp only [IsL] at h; exact ⟨v, rfl, h.1⟩
theorem ok_strO [PgT G] (c0 : XI X G W k) (sm : SmOk G.K) (h : KnS X.prog X.w G X.mg X.base j ci "__str__" ps sem f fd) (hj : j + 2 ≤ k) : CallR X (.type "str") (rBU G (fStrO ci sem)) := by
  intro pins s σ H xs us Q I r ⟨g, M, ds, rr, R, q, e, kk⟩
  unfold fStrO at e
  split at e
  · rename_i c' fs
    split at e
    · rename_i hc
      subst hc
      obtain ⟨t, e1, rfl⟩ := Option.map_eq_some_iff.mp e
      obtain ⟨x, rfl, q1⟩ := isl1 q
      obtain ⟨u, rfl, rx⟩ := r.one
      obtain ⟨a, dx, vfs, rfl, rd, fl⟩ := vw_ins (show Vw G g H (.ins c' fs) x from .inl q1)
      cases (show u = Value.ref a from rx)
      obtain ⟨mA, O, _⟩ := rd_ins rd I.hok
      obtain ⟨od, J, _⟩ := O.look
      have hat := h.at_
      have hif := h.isf
      rw [← c0.K] at hat hif
      have hr2 : Room j X.A.in1.in1 := (show Room (j + 1) X.A.in1 from ((c0.mono hj).roomC).in1).in1
      exact PySem.W.kso_call hr2.units0 I.kIn J hat hif (txt_run c0.K h ⟨hr2, c0.gd⟩ rfl I q1 e1 fun s' H' tk I' w lz => ⟨.str _, H', I', ⟨tk, rfl⟩, kk _ H' w ⟨rfl, lz⟩⟩)
    · cases e
  · exact rb_of_rbu (ok_strA c0.toXJ sm) pins s σ H xs us Q I r ⟨g, M, _, rr, R, q, e, kk⟩
theorem ok_reprO [PgT G] (c0 : XI X G W k) (sm : SmOk G.K) (h : KnS X.prog X.w G X.mg X.base j ci "__repr__" ps sem f fd) (hj : j + 1 ≤ k) : CallR X (.builtin "repr") (rBU G (fReprO ci sem)) := by
  intro pins s σ H xs us Q I r ⟨g, M, ds, rr, R, q, e, kk⟩
  unfold fReprO at e
  split at e
  · rename_i c' fs
    split at e
    · rename_i hc
      subst hc
      obtain ⟨t, e1, rfl⟩ := Option.map_eq_some_iff.mp e
      obtain ⟨x, rfl, q1⟩ := isl1 q
      obtain ⟨u, rfl, rx⟩ := r.one
      obtain ⟨a, dx, vfs, rfl, rd, fl⟩ := vw_ins (show Vw G g H (.ins c' fs) x from .inl q1)
      cases (show u = Value.ref a from rx)
      obtain ⟨mA, O, _⟩ := rd_ins rd I.hok
      obtain ⟨od, J, _⟩ := O.look
      obtain ⟨m, hF⟩ := I.fr
      have hat := h.at_
      have hif := h.isf
      rw [← c0.K] at hat hif
      have hr2 : Room j X.A.in1 := ((c0.mono hj).roomC).in1
      exact PySem.W.repr_K hr2.units0 hF I.ok.mod.kin J hat hif (txt_run c0.K h ⟨hr2, c0.gd⟩ rfl I q1 e1 fun s' H' tk I' w lz => ⟨.str _, H', I', ⟨tk, rfl⟩, kk _ H' w ⟨rfl, lz⟩⟩)
    · cases e
  · exact rb_of_rbu (ok_reprA c0.toXJ sm) pins s σ H xs us Q I r ⟨g, M, _, rr, R, q, e, kk⟩
theorem okBU {x : Str} {id : String} {f : List PI.D → Option SV} {m : EM (List PI.D)} {p : Pos} {e : Expr} (hc : CallR X (.builtin id) (rBU G f)) (hm : X.mg x = none) (hv : bootBuiltins x = some (.builtin id)) (ha : PAI X G W (e :: es) m) (hg : Gl X x := by rfl)
    (hn : x ≠ "__name__" := by decide) (hdb : (x == ("__debug__" : Str)) = false := by decide) (hs : starEach (e :: es) X.env = (false, eval e X.env) :: starEach es X.env := by rfl) (hpl : (backTo pos (starEach es X.env)).any (·.1) = false := by rfl) :
    PEI X G W (.Call (.Name x p) (e :: es) [] pos) (eBU f m) := by
  refine PE.imp (pe_callB hc hg hm hv ha hn hdb hs hpl) fun σ H Q ⟨g, e, M, R, h⟩ => ⟨g, e, M, R, (PostR.bind h).mono fun ds e1 M1 _ k vs H1 g1 N1 R1 r => ?_⟩
  obtain ⟨rr, er, k3⟩ := lift_ok (k.from N1)
  exact ⟨g1, M1, ds, rr, R1.toHRel, r, er, fun v H' w n => k3 v H' g1 (N1.trans (R1.toHRel.grows w)) (R1.grow w) (n.sv R1 w)⟩
theorem okBTU {x : Str} {T : String} {f : List PI.D → Option SV} {m : EM (List PI.D)} {p : Pos} {e : Expr} (hc : CallR X (.type T) (rBU G f)) (hm : X.mg x = none) (hv : bootBuiltins x = some (.type T)) (ha : PAI X G W (e :: es) m) (hg : Gl X x := by rfl)
    (hn : x ≠ "__name__" := by decide) (hdb : (x == ("__debug__" : Str)) = false := by decide) (hs : starEach (e :: es) X.env = (false, eval e X.env) :: starEach es X.env := by rfl) (hpl : (backTo pos (starEach es X.env)).any (·.1) = false := by rfl) :
    PEI X G W (.Call (.Name x p) (e :: es) [] pos) (eBU f m) := by
  refine PE.imp (pe_callTy hc hg hm hv ha hn hdb hs hpl) fun σ H Q ⟨g, e, M, R, h⟩ => ⟨g, e, M, R, (PostR.bind h).mono fun ds e1 M1 _ k vs H1 g1 N1 R1 r => ?_⟩
  obtain ⟨rr, er, k3⟩ := lift_ok (k.from N1)
  exact ⟨g1, M1, ds, rr, R1.toHRel, r, er, fun v H' w n => k3 v H' g1 (N1.trans (R1.toHRel.grows w)) (R1.grow w) (n.sv R1 w)⟩
end
end PI
set_option maxHeartbeats 1000000
/-! PISndLn: len by a class's own. -/
namespace PI
open PySem PySem.Spec PyProof.Rows L2
end PI
set_option maxHeartbeats 1000000
/-! PISndAt: attributes as targets; dict displays by texts; own len, str, repr of shared instances: soundness. -/
namespace PI
open PySem PySem.Spec PyProof.Rows L2
/-! ### dict displays -/
/-! ### len, str, repr by a class's own, the instance wherever it stands -/
end PI
set_option maxHeartbeats 1000000
/-! PISndT2: soundness of PIBor2. -/
namespace PI
open PySem PySem.Spec PyProof.Rows L2
end PI
set_option maxHeartbeats 1000000
/-! PISndBg: soundness of PIBorG. -/
namespace PI
open PySem PySem.Spec PyProof.Rows L2
end PI
set_option maxHeartbeats 1000000
/-! PISndBm: soundness of PIBorM. -/
namespace PI
open PySem PySem.Spec PyProof.Rows L2
end PI
/-! PIEndY: a hook with tables, facts of one's own; the numbers of defs, classes, tables, fields. -/
namespace PI
open PySem PySem.Spec PyProof.Rows L2
abbrev AlY : Type := He.AlD × Bool × List (Option (List (Option (Str × Int))))
abbrev TabS : Type := Str × List Str
def obsY (fa : List He.Fa) (fn : List He.DefD) (xs : List (PySem.W.Frag → Bool)) (ts : List TabS) (K : PySem.W.Frag) : AlY := (He.obsD fa fn K, xs.all (fun b => b K), ts.map fun t => He.dicW K (He.ga K t.1))
def asY (g : Addr → Option Obj) (n : Nat) : List Addr := sysModules :: He.asD g n
def obsYG (n : Nat) (fa : List He.Fa) (fn : List He.DefD) (xs : List (PySem.W.Frag → Bool)) (ts : List TabS) (g : Addr → Option Obj) : AlY := obsY fa fn xs ts (He.frG g (asY g n))
structure SaysY (fa : List He.Fa) (fn : List He.DefD) (xs : List (PySem.W.Frag → Bool)) (ts : List TabS) (w : World) (K : PySem.W.Frag) : Prop where
  d : He.SaysD fa fn K
  x : (xs.all fun b => b K) = true
  t : (ts.map fun t => He.dicW K (He.ga K t.1)) = ts.map fun t => some (He.keysIn w.params t.2)
theorem SaysY.of {fa : List He.Fa} {fn : List He.DefD} {xs : List (PySem.W.Frag → Bool)} {ts : List TabS} {w : World} {K : PySem.W.Frag} (e : obsY fa fn xs ts K = (He.valD fn, true, ts.map fun t => some (He.keysIn w.params t.2))) : SaysY fa fn xs ts w K :=
  ⟨congrArg (fun z : AlY => z.1) e, congrArg (fun z : AlY => z.2.1) e, congrArg (fun z : AlY => z.2.2) e⟩
theorem SaysY.fact {fa : List He.Fa} {fn : List He.DefD} {xs : List (PySem.W.Frag → Bool)} {ts : List TabS} {w : World} {K : PySem.W.Frag} (c : SaysY fa fn xs ts w K) (i : Nat) {b : PySem.W.Frag → Bool} (h : xs[i]? = some b := by rfl) : b K = true :=
  List.all_eq_true.mp c.x b (List.mem_of_getElem? h)
def valY (fn : List He.DefD) (ts : List TabS) (w : World) : AlY := (He.valD fn, true, ts.map fun t => some (He.keysIn w.params t.2))
def hookY (n : Nat) (fa : List He.Fa) (fn : List He.DefD) (xs : List (PySem.W.Frag → Bool)) (ts : List TabS) : PySem.W.Hook where
  α := AlY
  obs := fun s => obsYG n fa fn xs ts s.heap.get?
  val := fun w => valY fn ts w
  says := fun w h => ∃ K : PySem.W.Frag, K.In h ∧ SaysY fa fn xs ts w K
  of := fun w s e => ⟨He.frG s.heap.get? (asY s.heap.get? n), He.frG_in, SaysY.of (w := w) e⟩
  keeps := fun _ _ _ ⟨K, hK, c⟩ k => ⟨K, PySem.W.Frag.In.keeps hK k, c⟩
theorem obsYG_eq {n : Nat} {fa : List He.Fa} {fn : List He.DefD} {xs : List (PySem.W.Frag → Bool)} {ts : List TabS} {g : Addr → Option Obj} {s : Shared} (h : ∀ a, g a = s.heap.get? a) : obsYG n fa fn xs ts g = (hookY n fa fn xs ts).obs s := by
  have e : g = s.heap.get? := funext h
  rw [e] <;> rfl
/-- the names of classes, defs, tables, fields -/
def gaY (cs fs ts ds : List Str) (K : PySem.W.Frag) : Ga := ⟨K, fun i => He.ga K (fs.getD i ⟨#[]⟩), fun n => if n < 1000 then He.ga K (cs.getD n ⟨#[]⟩) else He.ga K (ts.getD (n - 1000) ⟨#[]⟩), fun i => ds.getD i ⟨#[]⟩, fun _ _ _ => False, true⟩
instance {cs fs ts ds : List Str} {K : PySem.W.Frag} : PgT (gaY cs fs ts ds K) := ⟨rfl⟩
/-! exceptions -/
/-! the first place -/
def smB (K : PySem.W.Frag) : Bool := match K.lookup sysModules with
  | some o => decide (o.cls = .type "dict")
  | none => false
theorem smB_ok {K : PySem.W.Frag} (h : smB K = true) : SmOk K := by
  unfold smB at h
  cases q : K.lookup sysModules with
  | none => rw [q] at h; cases h
  | some o => rw [q] at h; exact ⟨o, q, of_decide_eq_true h⟩
/-! tables -/
def vOf (G : Ga) : D → V
  | .fn i => .ref (G.fa i)
  | .cls c => .ref (G.ca c)
  | .str cs => .str ⟨cs.toArray⟩
  | .int i => .int i
  | _ => .non
def D.plainV : D → Bool
  | .fn _ => true
  | .cls _ => true
  | .str cs => decide (cs.length ≤ 1000)
  | .int _ => true
  | .non => true
  | _ => false
theorem vOf_is {G : Ga} {g : Gs} {H : Hp} {d : D} (h : d.plainV = true) : Is G g H d (vOf G d) := by
  cases d with
  | str cs => exact ⟨rfl, by rw [sizeLine_eq]; have := of_decide_eq_true h; omega⟩
  | _ => first | rfl | exact absurd h Bool.false_ne_true
/-! a tuple of the module -/
def tupC (G : PySem.W.Frag → Ga) (x : Str) (ds : List D) (K : PySem.W.Frag) : Bool := ds.all D.plainV && match K.lookup (He.ga K x) with
  | some ⟨.type c, none, .seq its _, _⟩ => decide (c = "tuple") && (decide (its.size ≤ sizeLine) && He.relAll (ds.map (vOf (G K))) its.toList)
  | _ => false
theorem isL_vOf {G : Ga} {g : Gs} {H : Hp} : ∀ {ds : List D}, ds.all D.plainV = true → IsL G g H ds (ds.map (vOf G))
  | [], _ => by simp only [List.map_nil, IsL]
  | d :: ds, h => by
    rw [List.all_cons, Bool.and_eq_true] at h
    simp only [List.map_cons, IsL]
    exact ⟨vOf_is h.1, isL_vOf h.2⟩
theorem tupC_ok {G : PySem.W.Frag → Ga} {K : PySem.W.Frag} {x : Str} {ds : List D} (hG : (G K).K = K) (h : tupC G x ds K = true) : ∀ g H, Is (G K) g H (.tup ds) (.ref (He.ga K x)) := by
  intro g H
  obtain ⟨h0, h⟩ := Bool.and_eq_true_iff.mp h
  simp only [Is]
  refine ⟨_, ds.map (vOf (G K)), rfl, .inr ?_, isL_vOf h0⟩
  rw [hG]
  cases q : K.lookup (He.ga K x) with
  | none => rw [q] at h; cases h
  | some o =>
    obtain ⟨oc, od, dt, osl⟩ := o
    rw [q] at h
    cases oc with
    | type c =>
      cases od with
      | none =>
        cases dt with
        | seq its n =>
          obtain ⟨h1, h2⟩ := Bool.and_eq_true_iff.mp h
          obtain ⟨h3, h4⟩ := Bool.and_eq_true_iff.mp h2
          exact ⟨_, its, n, rfl, congrArg Value.type (of_decide_eq_true h1), rfl, rfl, of_decide_eq_true h3, He.relAll_ok h4⟩
        | _ => cases h
      | some _ => cases dt <;> cases h
    | _ => cases od <;> cases dt <;> cases h
end PI
/-! PIEndZ: what the head says of own classes. -/
namespace PI
open PySem PySem.Spec PyProof.Rows L2
/-- the i-th statement of a class's body -/
def clsSt (st : Stmt) (i : Nat) : Stmt := match st with
  | .ClassDef (body := b) .. => b.getD i (.Pass ⟨0, 0, 0, 0⟩)
  | _ => .Pass ⟨0, 0, 0, 0⟩
theorem gaY_inj {cs fs ts ds : List Str} {K : PySem.W.Frag} {i : Nat} (hn : ds.Nodup) (hi : i < ds.length) (he : (ds.all fun d => decide (d ≠ (⟨#[]⟩ : Str))) = true) : ∀ j, (gaY cs fs ts ds K).fld j = (gaY cs fs ts ds K).fld i → j = i := fun j h => by
  have h : ds.getD j ⟨#[]⟩ = ds.getD i ⟨#[]⟩ := h
  rw [List.getD_eq_getElem?_getD, List.getD_eq_getElem?_getD, List.getElem?_eq_getElem hi] at h
  by_cases hj : j < ds.length
  · rw [List.getElem?_eq_getElem hj] at h
    have h : ds[j] = ds[i] := h
    have pw := List.pairwise_iff_getElem.mp hn
    rcases Nat.lt_trichotomy j i with z | z | z
    · exact absurd h (pw j i hj hi z)
    · exact z
    · exact absurd h.symm (pw i j hi hj z)
  · rw [List.getElem?_eq_none (by omega)] at h
    have := of_decide_eq_true (List.all_eq_true.mp he ds[i] (List.getElem_mem hi))
    exact absurd h.symm this
def xfFact (G : PySem.W.Frag → Ga) (n : Nat) (f : Str) (K : PySem.W.Frag) : Bool := (List.range n).all fun c => xfB K ((G K).ca c) && decide (PySem.W.findIn K (.ref ((G K).ca c)) f = some none)
theorem xfFact_ok {G : PySem.W.Frag → Ga} {n : Nat} {f : Str} {K : PySem.W.Frag} (hG : (G K).K = K) (h : xfFact G n f K = true) : ∀ c, c < n → XfC (G K).K ((G K).ca c) ∧ PySem.W.findIn (G K).K (.ref ((G K).ca c)) f = some none := fun c hc => by
  obtain ⟨h1, h2⟩ := Bool.and_eq_true_iff.mp (List.all_eq_true.mp h c (List.mem_range.mpr hc))
  rw [hG]
  exact ⟨xfB_ok h1, of_decide_eq_true h2⟩
abbrev biT : List String := ["NoneType", "bool", "int", "str", "tuple", "list", "dict"]
def clsB (K : PySem.W.Frag) (C : Addr) : Bool := (PySem.W.plainGet K C Str.empty && (PySem.W.hasDictIn K C && (PySem.W.plainOver K C && decide (PySem.W.findIn K (.ref C) "__setattr__" = some (some (.builtin "object.__setattr__")))))) &&
  (decide (PySem.W.findIn K (.ref C) "__class__" = some (some (.builtin "object.__class__"))) && (decide (PySem.W.specialIn K (.builtin "object.__class__") "__get__" = some (some (.builtin "getset_descriptor.__get__"))) &&
    (decide (PySem.W.takesIn K (.builtin "object.__class__") = some true) && decide (PySem.W.mroIn K C (.type "object") = some true))))
def iuFact (G : PySem.W.Frag → Ga) (lo n : Nat) (K : PySem.W.Frag) : Bool := (List.range n).all fun c => decide (c < lo) || (clsB K ((G K).ca c) &&
  ((biT.all fun T => decide (PySem.W.kitOne K (.type T) (.ref ((G K).ca c)) = some false) && (decide (T = "NoneType") || decide (PySem.W.kitOne K (.ref ((G K).ca c)) (.type T) = some false))) &&
  (List.range n).all fun d => decide (d < lo) || decide (PySem.W.kitOne K (.ref ((G K).ca c)) (.ref ((G K).ca d)) = some (c == d))))
theorem iuFact_ok {G : PySem.W.Frag → Ga} {lo n : Nat} {K : PySem.W.Frag} (hG : (G K).K = K) (h : iuFact G lo n K = true) : IuOk (G K) lo n := by
  have hh : ∀ c, lo ≤ c ∧ c < n → _ := fun c hc => (Bool.or_eq_true_iff.mp (List.all_eq_true.mp h c (List.mem_range.mpr hc.2))).resolve_left (by simp; omega)
  refine ⟨fun c hc => ?_, fun c hc T hT => ?_, fun c d hc hd => ?_⟩
  · have h1 := (Bool.and_eq_true_iff.mp (hh c hc)).1
    unfold clsB at h1
    simp only [Bool.and_eq_true, decide_eq_true_eq] at h1
    rw [hG]
    exact ⟨⟨h1.1.1, h1.1.2.1, h1.1.2.2.1, h1.1.2.2.2⟩, h1.2.1, h1.2.2.1, h1.2.2.2.1, h1.2.2.2.2⟩
  · have h1 := (Bool.and_eq_true_iff.mp (Bool.and_eq_true_iff.mp (hh c hc)).2).1
    have h2 := List.all_eq_true.mp h1 T hT
    simp only [Bool.and_eq_true, Bool.or_eq_true, decide_eq_true_eq] at h2
    rw [hG]
    exact ⟨h2.1, fun z => h2.2.resolve_left z⟩
  · have h1 := (Bool.and_eq_true_iff.mp (Bool.and_eq_true_iff.mp (hh c hc)).2).2
    have h2 := List.all_eq_true.mp h1 d (List.mem_range.mpr hd.2)
    simp only [Bool.or_eq_true, decide_eq_true_eq] at h2
    rw [hG]
    exact h2.resolve_left (by omega)
end PI
/-! PIEndW: what the head says of exception classes with an own __init__. -/
namespace PI
open PySem PySem.Spec PyProof.Rows L2
/-- as excFactG; pl: the classes with no __init__ of their own -/
def excFactH (G : PySem.W.Frag → Ga) (n : Nat) (pl : List Nat) (mro : Nat → List D) (ks : List D) (CA : Str) (sub : Nat → Bool) (K : PySem.W.Frag) : Bool :=
  ((List.range n).all fun c => exccB K ((G K).ca c) && ((ks.all fun k => k.isCls && decide (PySem.W.kitOne K (.ref ((G K).ca c)) (clsV (G K) k) = some ((mro c).any (isK k)))) && (decide (PySem.W.exmOne K (.ref ((G K).ca c)) (.ref (He.ga K CA)) = some (sub c))))) &&
  (pl.all fun c => ((PySem.W.excIn K ((G K).ca c) veB "ValueError.__new__" && PySem.W.keepIn K (.ref ((G K).ca c))) && (decide (PySem.W.subIn K (.ref ((G K).ca c)) (.type "BaseException") = some true) && decide (PySem.W.typeIn K (.ref ((G K).ca c)) = some (.type "type")))))
theorem excFactH_ok {G : PySem.W.Frag → Ga} {n : Nat} {pl : List Nat} {mro : Nat → List D} {ks : List D} {CA : Str} {sub : Nat → Bool} {K : PySem.W.Frag} (hG : (G K).K = K) (h : excFactH G n pl mro ks CA sub K = true) :
    XcOk (G K) n mro ks ∧ SubOk (G K) n (He.ga K CA) sub ∧ ∀ c, c ∈ pl → ExcR (G K).K ((G K).ca c) := by
  obtain ⟨ha, hb⟩ := Bool.and_eq_true_iff.mp h
  have h' : ∀ c, c < n → _ := fun c hc => List.all_eq_true.mp ha c (List.mem_range.mpr hc)
  have hb' : ∀ c, c ∈ pl → _ := fun c hc => List.all_eq_true.mp hb c hc
  simp only [Bool.and_eq_true, decide_eq_true_eq, List.all_eq_true] at h' hb'
  refine ⟨⟨fun c hc => ?_, fun c hc k hk _ => ?_⟩, ⟨fun c hc => ?_⟩, fun c hc => ?_⟩
  · rw [hG]; exact exccB_ok (h' c hc).1
  · rw [hG]; exact ((h' c hc).2.1 k hk).2
  · rw [hG]; exact (h' c hc).2.2
  · rw [hG]; exact ⟨(hb' c hc).1.1, (hb' c hc).1.2, (hb' c hc).2.1, (hb' c hc).2.2⟩
def oexB (K : PySem.W.Frag) (C : Addr) : Bool := (match K.lookup C with
  | some ⟨.type "type", _, .cls cd, sl⟩ => (match cd.mro, sl.toList with
    | .ref C' :: bm, [_, _, _, _, some (.builtin n), _] => C' == C && (n == "ValueError.__new__" && (!cd.hasDel && (cd.hasDict && PySem.HandSPX.refsVE bm)))
    | _, _ => false)
  | _ => false) && (He.eqO (PySem.W.findIn K (.ref C) "__setattr__") (some (some (.builtin "object.__setattr__"))) && (decide (PySem.W.subIn K (.ref C) (.type "BaseException") = some true) && (decide (PySem.W.typeIn K (.ref C) = some (.type "type")) && PySem.W.keepIn K (.ref C))))
theorem oexB_ok {K : PySem.W.Frag} {C : Addr} (h : oexB K C = true) : OexC K C := by
  unfold oexB at h
  simp only [Bool.and_eq_true, decide_eq_true_eq] at h
  obtain ⟨q, h1, h2, h3, h4⟩ := h
  refine ⟨?_, He.eqO_ok h1, h2, h3, h4⟩
  split at q
  · rename_i dd cd sl ho
    split at q
    · rename_i C' bm k0 k1 k2 k3 n k5 hm hs
      simp only [Bool.and_eq_true, beq_iff_eq, Bool.not_eq_true'] at q
      obtain ⟨rfl, rfl, hdel, hd1, ht⟩ := q
      obtain ⟨nm, bs, mro, ns, qn, hd, sn, sub, ab, col, del⟩ := cd
      dsimp only at hm hdel hd1
      subst hm hdel hd1
      have hsl : sl = #[k0, k1, k2, k3, some (.builtin "ValueError.__new__"), k5] := by
        obtain ⟨l⟩ := sl
        simp only at hs
        rw [hs]
      subst hsl
      exact ⟨nm, qn, ns, bs, bm, sn, sub, ab, col, dd, k0, k1, k2, k3, k5, ho, ht⟩
    · cases q
  · cases q
def keFact (G : PySem.W.Frag → Ga) (c : Nat) (fl : List Nat) (x : Str) (K : PySem.W.Frag) : Bool := oexB K ((G K).ca c) && ((fl.all fun i => He.eqO (PySem.W.findIn K (.ref ((G K).ca c)) ((G K).fld i)) (some none)) &&
  (He.eqO (PySem.W.findIn K (.ref ((G K).ca c)) "__init__") (some (some (.ref (He.fAd K (x, some "__init__"))))) && decide (PySem.W.typeIn K (.ref (He.fAd K (x, some "__init__"))) = some (.type "function"))))
theorem keFact_ok {P : Program} {w : World} {mg : Str → Option Value} {base : Heap} {G : PySem.W.Frag → Ga} {c : Nat} {fl : List Nat} {x : Str} {K : PySem.W.Frag} {ps : List Str} {fd : FuncData} (hG : (G K).K = K) (h : keFact G c fl x K = true) (m : mg x = some (.ref ((G K).ca c)))
    (fn : FnOk P w (G K).K mg base CX0 1 (He.fAd K (x, some "__init__")) fd ps (spX (G K).K ((G K).ca c) (fl.map (G K).fld))) (nd : (fl.map (G K).fld).Nodup) (ln : ps.length = fl.length + 1) : KnE P w (G K) mg base c x fl ps (He.fAd K (x, some "__init__")) fd := by
  unfold keFact at h
  simp only [Bool.and_eq_true, decide_eq_true_eq, List.all_eq_true] at h
  obtain ⟨h1, h2, h3, h4⟩ := h
  exact ⟨m, by rw [hG]; exact oexB_ok h1, fun i hi => by rw [hG]; exact He.eqO_ok (h2 i hi), by rw [hG]; exact He.eqO_ok h3, by rw [hG]; exact h4, fn, nd, ln⟩
end PI
set_option maxHeartbeats 1000000
/-! PIOwn5: == and != of lists, with a comparison that makes objects. -/
set_option maxHeartbeats 1000000
/-! PIOwn6: == and != of lists of instances. -/
namespace PI
open PySem PySem.Spec PyProof.Rows L2
end PI
set_option maxHeartbeats 1000000
/-! PIOwn7: count and index of lists, with a comparison that makes objects. -/
set_option maxHeartbeats 1000000
/-! PIOwn8: count, index by an own ==; == of an instance and anything. -/
namespace PI
open PySem PySem.Spec PyProof.Rows L2
end PI
set_option maxHeartbeats 1000000
/-! PIOwn9: != of an instance whose class has an own __eq__ alone. -/
namespace PI
open PySem PySem.Spec PyProof.Rows L2
end PI
set_option maxHeartbeats 1000000
/-! PIOwnA: a built-in's == declines an instance. -/
set_option maxHeartbeats 1000000
/-! PIOwnB: anything == an instance. -/
namespace PI
open PySem PySem.Spec PyProof.Rows L2
end PI
/-! PIEndV: what the head says of a class with an own ==. -/
namespace PI
open PySem PySem.Spec PyProof.Rows L2
end PI
/-! PISndDc: list(d.values()), list(d.items()). -/
namespace PI
open PySem PySem.Spec PyProof.Rows L2
end PI
set_option maxHeartbeats 4000000
/-! PISndKx: an own exception class called with keywords. -/
namespace PySem
end PySem
namespace PI
open PySem PySem.Spec PyProof.Rows L2
end PI
/-! PIEndU: what the head says of the classes that except clauses name. -/
namespace PI
open PySem PySem.Spec PyProof.Rows L2
end PI
set_option maxHeartbeats 4000000
/-! PIExL: raise C(..) with fields, C's family LookupError. -/
namespace PySem
end PySem
namespace PI
open PySem PySem.Spec PyProof.Rows L2
end PI
/-! PIEndL: what the head says of exception classes of the family LookupError. -/
namespace PI
open PySem PySem.Spec PyProof.Rows L2
end PI
set_option maxHeartbeats 1000000
/-! PISndTt: try: body, except (A, B) as e: return f(e). -/
namespace PI
open PySem PySem.Spec PyProof.Rows L2
end PI
/-! PIRepJ: repr of lists, tuples, dicts whose items' own repr makes objects: what is kept is a property J of the state, with some new lists pinned. -/
namespace PI
open PySem Builtin Builtin.List
open Sem (wp)
/-- what a container holds -/
def kidsO (o : Obj) : List Value := match o.data with
  | .seq items _ => items.toList
  | .dict es _ => es.toList.map (·.key) ++ es.toList.map (·.val)
  | _ => []
/-- a height at most n, by the objects that stay -/
def HtLe (R : Addr → Obj → Prop) : Nat → Value → Prop
  | 0, v => ∀ a o, v = .ref a → R a o → kidsO o = []
  | n + 1, v => ∀ a o, v = .ref a → R a o → ∀ x ∈ kidsO o, HtLe R n x
section
variable {R : Addr → Obj → Prop}
theorem HtLe.succ : ∀ {n : Nat} {v : Value}, HtLe R n v → HtLe R (n + 1) v
  | 0, v, h => fun a o e r x hx => by rw [h a o e r] at hx; cases hx
  | n + 1, v, h => fun a o e r x hx => HtLe.succ (h a o e r x hx)
theorem HtLe.mono {n m : Nat} {v : Value} (h : HtLe R n v) (l : n ≤ m) : HtLe R m v := by
  induction l with
  | refl => exact h
  | step _ ih => exact ih.succ
theorem HtLe.least {v : Value} : ∀ {n : Nat}, HtLe R n v → ∃ m, m ≤ n ∧ HtLe R m v ∧ (m = 0 ∨ ∃ k, m = k + 1 ∧ ¬ HtLe R k v)
  | 0, h => ⟨0, Nat.le_refl _, h, .inl rfl⟩
  | n + 1, h => by
    by_cases q : HtLe R n v
    · obtain ⟨m, l, r⟩ := HtLe.least q
      exact ⟨m, Nat.le_succ_of_le l, r⟩
    · exact ⟨n + 1, Nat.le_refl _, h, .inr ⟨n, rfl, q⟩⟩
theorem HtLe.leaf {v : Value} (n : Nat) (h : ∀ a, v ≠ .ref a) : HtLe R n v := by
  cases n with
  | zero => exact fun a o e _ => absurd e (h a)
  | succ n => exact fun a o e _ => absurd e (h a)
/-- what is being shown is of a greater height -/
def Above (R : Addr → Obj → Prop) (n : Nat) (g : List Code) : Prop := ∀ id v rest kw, Code.builtin id ⟨v :: rest, kw⟩ ∈ g → ¬ HtLe R n v
theorem Above.mono {n m : Nat} {g : List Code} (h : Above R n g) (l : m ≤ n) : Above R m g := fun id v rest kw q z => h id v rest kw q (z.mono l)
theorem Above.cons {n : Nat} {g : List Code} {a : Addr} {id : String} {rest : List Value} {kw : List (Str × Value)} (h : Above R n g) (ha : ¬ HtLe R n (.ref a)) : Above R n (.builtin id ⟨.ref a :: rest, kw⟩ :: g) := by
  intro id' v rest' kw' hm
  rcases List.mem_cons.mp hm with e | hm
  · cases e
    exact ha
  · exact h _ _ _ _ hm
theorem Above.clear {n : Nat} {g : List Code} {a : Addr} (h : Above R n g) (ha : HtLe R n (.ref a)) : Clear g a := fun id v rest kw hm e => h id v rest kw hm (e ▸ ha)
end
/-- what stands around: the frames, no exception, room for so many containers and calls -/
structure AO (fr : Option (List PySem.Env)) (j d : Nat) (A : Around) : Prop where
  fr : A.frames = fr
  hd : A.handled = none
  dp : A.depth + d + 3 * j + 5 < recursionLimit
  un : A.units + d + 16 * j + 200 < cLine
theorem AO.le {fr : Option (List PySem.Env)} {j d e : Nat} {A : Around} (h : AO fr j d A) (l : e ≤ d) : AO fr j e A := ⟨h.fr, h.hd, by have := h.dp; omega, by have := h.un; omega⟩
theorem AO.lt {fr : Option (List PySem.Env)} {j d : Nat} {A : Around} (h : AO fr j d A) : A.units + d < cLine := by have := h.un; omega
theorem AO.under {fr : Option (List PySem.Env)} {j d : Nat} {A : Around} {c : Code} (h : AO fr j (d + 1) A) (e1 : (A.under c).frames = A.frames) (e2 : (A.under c).depth = A.depth + 1) (e3 : (A.under c).units = A.units + 1) : AO fr j d (A.under c) :=
  ⟨e1.trans h.fr, h.hd, by rw [e2]; have := h.dp; omega, by rw [e3]; have := h.un; omega⟩
abbrev LO (acc : Array Value) (c : Nat) : Obj := { cls := .type "list", dict := none, data := .seq acc c, slots := #[] }
/-- a property of the state that bears what repr does -/
structure JOk (J : List (Addr × Obj) → Shared → Prop) (R : Addr → Obj → Prop) : Prop where
  rd : ∀ {ps : List (Addr × Obj)} {s : Shared}, J ps s → ∀ {b : Addr} {o : Obj}, R b o → s.heap.get? b = some o
  pin : ∀ {ps : List (Addr × Obj)} {s : Shared} {P : Addr} {o : Obj}, J ((P, o) :: ps) s → s.heap.get? P = some o
  drop : ∀ {ps : List (Addr × Obj)} {s : Shared} {p : Addr × Obj}, J (p :: ps) s → J ps s
  keep : ∀ {ps : List (Addr × Obj)} {s : Shared} {h' : Heap} {tk : Nat}, J ps s → (∀ b o, s.heap.get? b = some o → h'.get? b = some o) → J ps { s with heap := h', toks := tk }
  push : ∀ {ps : List (Addr × Obj)} {s : Shared} {h' : Heap} {tk : Nat} {P : Addr} {acc : Array Value} {c : Nat}, J ps s → (∀ b o, s.heap.get? b = some o → h'.get? b = some o) → s.heap.objs.size ≤ P → h'.get? P = some (LO acc c) → J ((P, LO acc c) :: ps) { s with heap := h', toks := tk }
  upd : ∀ {ps : List (Addr × Obj)} {s : Shared} {h' : Heap} {tk : Nat} {P : Addr} {acc acc' : Array Value} {c c' : Nat}, J ((P, LO acc c) :: ps) s → (∀ b o, b ≠ P → s.heap.get? b = some o → h'.get? b = some o) → h'.get? P = some (LO acc' c') → J ((P, LO acc' c') :: ps) { s with heap := h', toks := tk }
/-- a value is shown as t -/
def RJ (prog : Program) (w : World) (J : List (Addr × Obj) → Shared → Prop) (R : Addr → Obj → Prop) (fr : Option (List PySem.Env)) (j d : Nat) (x : Value) (t : Str) : Prop :=
  ∀ (n : Nat), HtLe R n x → ∀ (base : Nat), base + t.length ≤ sizeLine → ∀ (A : Around) (g : List Code) (E : Value → Shared → Prop) (ps : List (Addr × Obj)) (s : Shared) (Q : Str → Shared → Prop), A.guards = some g → Above R n g → AO fr j d A → J ps s →
    (∀ s', J ps s' → Q t s') → wpAny (model prog w) A (pyReprUnder base x) Q E s
section
variable {prog : Program} {w : World} {J : List (Addr × Obj) → Shared → Prop} {R : Addr → Obj → Prop} {fr : Option (List PySem.Env)} {j d : Nat}
theorem RJ.of_is (jo : JOk J R) {x : Value} {t : Str} (h : ReprIs prog w x t) : RJ prog w J R fr j d x t := fun n _ base hb A g E ps s Q _ _ _ j0 hQ => h base hb A E s Q fun tk => hQ _ (jo.keep j0 fun _ _ e => e)
theorem RJ.level_le {x : Value} {t : Str} {d' : Nat} (h : RJ prog w J R fr j d x t) (hd : d ≤ d') : RJ prog w J R fr j d' x t :=
  fun n hn base hz A g E ps s Q hg hcl hu j0 hQ => h n hn base hz A g E ps s Q hg hcl (hu.le hd) j0 hQ
theorem under_loop {A : Around} {args : Args} : (A.under (.builtin "list.__repr__.loop" args)).frames = A.frames ∧ (A.under (.builtin "list.__repr__.loop" args)).depth = A.depth + 1 := by
  constructor
  · first | rfl | simp [Around.under, Code.envs, pushEnvs]
  · first | rfl | simp [Around.under, Code.weight, Code.isCreation, Code.isGuard, Code.isCaller, Code.frames, Code.isFrame, guardIds]
variable {A : Around} {Z : Result → Shared → Prop} {ps : List (Addr × Obj)}
theorem list_loopJ (jo : JOk J R) {a P : Addr} {items : Array Value} {ts : List Str} {base m na : Nat} {oa : Obj} {g : List Code} (hg : A.guards = some g) (hcl : Above R m g) (hm : ¬ HtLe R m (.ref a)) (hu : AO fr j (d + 1) A) (hra : R a oa) (hda : oa.data = .seq items na) (hlen : ts.length = items.size)
    (hT : ∀ (i : Nat) (x : Value), items[i]? = some x → HtLe R m x ∧ ∃ t, ts[i]? = some t ∧ RJ prog w J R fr j d x t)
    (hsz : base + (listText ts).length ≤ sizeLine) :
    ∀ (k i : Nat) (s : Shared) (acc : Array Value) (c : Nat) (done : List (Str × Tok)), items.size - i = k → i ≤ items.size → J ((P, LO acc c) :: ps) s → acc.toList = strValues done → done.map (·.1) = ts.take i →
    (∀ s' u, J ps s' → Z (.ok (.ret (.str (listText ts) u))) s') →
    codeAny (model prog w) A (.builtin "list.__repr__.loop" ⟨[.ref a, rawInt i, .ref P, rawInt ((base + piled (ts.take i) : Nat) : Int)], []⟩) Z s := by
  have hX : (listText ts).length = (textFrom 0 "[" ts).length + 1 := by
    show (textFrom 0 "[" ts ++ "]").length = _
    rw [strLen_append]; rfl
  have hL := textFrom_len ts 0 "["
  have hsz1 : items.size ≤ sizeLine := by
    have h1 := hL.1
    rw [if_neg (Nat.lt_irrefl 0)] at h1
    omega
  have hsz2 : ∀ t ∈ ts, t.length ≤ sizeLine := fun t ht => by
    have h2 := hL.2.1 t ht
    omega
  have hsz3 : (listText ts).length ≤ sizeLine := by omega
  have hp3 := piled_le_listText ts
  intro k
  induction k with
  | zero =>
    intro i s acc c done hk hi j0 hacc hdone hR
    have hin : i = items.size := by omega
    refine codeAny_builtin F.entry_list_repr_loop ?_
    show wpAny _ _ («list.__repr__.loop» ⟨[.ref a, .int i 0, .ref P, .int ((base + piled (ts.take i) : Nat) : Int) 0], []⟩) _ _ s
    rw [repr_loop_tree]
    refine wpAny_bind (wpAny_listItems (jo.rd j0 hra) hda ?_)
    have hnone : items[(i : Int).toNat]? = none := by simp [hin]
    simp only [hnone]
    unfold reprEnd
    refine wpAny_bind (wpAny_listItems (jo.pin j0) rfl ?_)
    rw [hacc, repr_fold]
    refine wpAny_bind (wpAny_pure ?_)
    have hall : done.map (·.1) = ts := by rw [hdone, hin, ← hlen, List.take_length]
    rw [hall]
    refine wpAny_bind (wpAny_mkStr (wpAny_pure ?_) hsz3)
    exact hR _ _ (jo.keep (jo.drop j0) fun _ _ e => e)
  | succ k ih =>
    intro i s acc c done hk hi j0 hacc hdone hR
    have hlt : i < items.size := by omega
    obtain ⟨hht, t, ht, hrep⟩ := hT i items[i] (by simp [hlt])
    have hp1 := piled_take_succ ht
    have hp2 := piled_take_le ts (i + 1)
    refine codeAny_builtin F.entry_list_repr_loop ?_
    show wpAny _ _ («list.__repr__.loop» ⟨[.ref a, .int i 0, .ref P, .int ((base + piled (ts.take i) : Nat) : Int) 0], []⟩) _ _ s
    rw [repr_loop_tree]
    refine wpAny_bind (wpAny_listItems (jo.rd j0 hra) hda ?_)
    have hsome : items[(i : Int).toNat]? = some items[i] := by simp [hlt]
    simp only [hsome]
    rw [Int.toNat_natCast]
    refine wpAny_bind (wpAny_holding (hrep m hht (base + piled (ts.take i) + 1) (by omega) _ _ _ _ _ _ (guards_under_guard (isGuard_list_loop _) hg) (hcl.cons hm) (hu.under under_loop.1 under_loop.2 (units_under_list_loop _ _)) j0 fun s' j1 => ?_))
    refine wpAny_bind (wpAny_mkStr ?_ (hsz2 t (List.mem_of_getElem? ht)))
    refine wpAny_bind ?_
    show wpAny _ _ (updateSeq P _) _ _ _
    have hasz : acc.size ≤ sizeLine := by
      have e1 : acc.toList.length = acc.size := by simp
      have e2 : (strValues done).length = done.length := by simp [strValues]
      have e3 : done.length = (ts.take i).length := by rw [← hdone, List.length_map]
      have e4 : (ts.take i).length ≤ i := by rw [List.length_take]; omega
      rw [hacc] at e1; omega
    have hpin : s'.heap.get? P = some (LO acc c) := jo.pin j1
    refine wpAny_updateSeq (o := LO acc c) (n := c) hpin rfl (wpAny_pure ⟨F.quiet_list_repr_loop _, ?_⟩) hasz
    have e1 : ((i : Int) + 1) = ((i + 1 : Nat) : Int) := by omega
    have e2 : base + piled (ts.take i) + (t.length + 2) = base + piled (ts.take (i + 1)) := by omega
    rw [e1, e2]
    have hup := Heap.get?_update_self (Obj.mapSeq fun xs => xs.push (.str t s'.toks)) (jo.pin j1) rfl
    exact ih (i + 1) _ (acc.push (.str t s'.toks)) _ (done ++ [(t, s'.toks)]) (by omega) hlt (jo.upd (s := s') (tk := s'.toks + 1) j1 (fun b o hb e => (Heap.get?_update_other _ _ (fun h : P = b => hb h.symm)).trans e) hup) (by simp [hacc, strValues]) (by simp [List.take_add_one, ht, hdone]) hR
theorem list_reprAtJ (jo : JOk J R) {a : Addr} {oa : Obj} {x : Value} {l : List Value} {na m base : Nat} {ts : List Str} {g : List Code} {s : Shared} (hra : R a oa) (hda : oa.data = .seq (x :: l).toArray na) (hlen : ts.length = (x :: l).toArray.size)
    (hT : ∀ (i : Nat) (y : Value), (x :: l).toArray[i]? = some y → HtLe R m y ∧ ∃ t, ts[i]? = some t ∧ RJ prog w J R fr j d y t)
    (hg : A.guards = some g) (hcl : Above R m g) (hm : ¬ HtLe R m (.ref a)) (hca : Clear g a) (hu : AO fr j (d + 1) A) (j0 : J ps s)
    (hR : ∀ s' u, J ps s' → Z (.ok (.ret (.str (listText ts) u))) s') (hsz : base + (listText ts).length ≤ sizeLine) :
    wpAny (model prog w) A.in1 (Builtin.listReprAt base ⟨[.ref a], []⟩) (fun fin s' => match fin with | .done f => Z (.ok f) s' | .again c' => c'.quiet = true ∧ codeAny (model prog w) A c' Z s') (fun e s' => Z (.error e) s') s := by
  refine wpAny_list_repr_head (A := A.in1) hg (fun v rest kw hm => listSameRef_of_ne (hca _ _ _ _ hm)) (jo.rd j0 hra) hda ?_
  refine wpAny_bind (m := newList []) (wpAny_newObj_type ?_)
  refine wpAny_pure ⟨F.quiet_list_repr_loop _, ?_⟩
  exact list_loopJ (P := s.heap.objs.size) jo hg hcl hm hu hra hda hlen hT hsz _ 0 _ #[] _ [] rfl (Nat.zero_le _)
    (jo.push (tk := s.toks) j0 (fun b o e => Heap.get?_push_of_some _ e) (Nat.le_refl _) (Heap.get?_push_size _ rfl)) rfl (by simp) hR
theorem RJ.list (jo : JOk J R) {a : Addr} {oa : Obj} {l : List Value} {na : Nat} {ts : List Str} (hra : R a oa) (hc : oa.cls = .type "list") (hda : oa.data = .seq l.toArray na) (hlen : ts.length = l.length)
    (hT : ∀ (i : Nat) (y : Value), l[i]? = some y → ∃ t, ts[i]? = some t ∧ RJ prog w J R fr j d y t) : RJ prog w J R fr j (d + 1) (.ref a) (listText ts) := by
  intro n hn base hb A g E ps s Q hg hcl hu j0 hQ
  have hT0 : s.TypeIs (.ref a) "list" := ⟨oa, jo.rd j0 hra, hc⟩
  cases l with
  | nil =>
    obtain rfl : ts = [] := List.eq_nil_of_length_eq_zero hlen
    rw [listText_nil] at hQ
    exact wpAny_pyReprUnder_ref (by omega) (wpAny_pyReprObjUnder_list_empty hT0 (by have := hu.lt; omega) (jo.rd j0 hra) hda ⟨_, _, rfl, hQ _ (jo.keep j0 fun _ _ e => e)⟩)
  | cons x l =>
    obtain ⟨m, lm, hm, q⟩ := hn.least
    have kids : kidsO oa = x :: l := by simp [kidsO, hda]
    rcases q with rfl | ⟨k, rfl, nk⟩
    · have := hm a oa rfl hra
      rw [kids] at this
      cases this
    · have hk : ∀ y ∈ x :: l, HtLe R k y := fun y hy => hm a oa rfl hra y (by rw [kids]; exact hy)
      have ab := hcl.mono lm
      have body := list_reprAtJ (prog := prog) (w := w) (fr := fr) (j := j) (d := d) (A := A) (Z := callEnd (fun v s' => (∃ x u, v = .str x u) ∧ ∃ x u, v = .str x u ∧ Q x s') E) (ps := ps) (base := base) jo hra hda (by simpa using hlen) (fun i y e => ⟨hk y (List.mem_of_getElem? (by simpa using e)), hT i y (by simpa using e)⟩) hg (ab.mono (Nat.le_succ k)) nk (ab.clear hm) hu j0 (fun s' u j1 => ⟨⟨_, _, rfl⟩, _, _, rfl, hQ s' j1⟩) hb
      exact wpAny_pyReprUnder_ref (by omega) (wpAny_pyReprObjUnder_twin (twin := "list.__repr__.under") hT0 F.slot_list_repr.toG rfl (by have := hu.lt; omega)
        (call_twin_plain F.plain_list_repr_under F.entry_list_repr_under F.check_list_repr_under hT0 F.slot_list_repr.toG (F.args_list_repr_1 _) body))
inductive RJs (prog : Program) (w : World) (J : List (Addr × Obj) → Shared → Prop) (R : Addr → Obj → Prop) (fr : Option (List PySem.Env)) (j d : Nat) : List Value → List Str → Prop
  | nil : RJs prog w J R fr j d [] []
  | cons {x : Value} {t : Str} {l : List Value} {ts : List Str} : RJ prog w J R fr j d x t → RJs prog w J R fr j d l ts → RJs prog w J R fr j d (x :: l) (t :: ts)
theorem RJs.length_eq : ∀ {l : List Value} {ts : List Str}, RJs prog w J R fr j d l ts → ts.length = l.length
  | _, _, .nil => rfl
  | _, _, .cons _ h => by simp [h.length_eq]
theorem RJs.item : ∀ {l : List Value} {ts : List Str}, RJs prog w J R fr j d l ts → ∀ (i : Nat) (y : Value), l[i]? = some y → ∃ t, ts[i]? = some t ∧ RJ prog w J R fr j d y t
  | _, _, .nil, _, _, e => by simp at e
  | _, _, .cons hx _, 0, _, e => by
    simp at e
    subst e
    exact ⟨_, rfl, hx⟩
  | _, _, .cons _ hl, i + 1, y, e => by
    obtain ⟨t, ht, hk⟩ := hl.item i y (by simpa using e)
    exact ⟨t, by simpa using ht, hk⟩
theorem RJs.more_le {d' : Nat} (hd : d ≤ d') : ∀ {l : List Value} {ts : List Str}, RJs prog w J R fr j d l ts → RJs prog w J R fr j d' l ts
  | _, _, .nil => .nil
  | _, _, .cons hx hl => .cons (hx.level_le hd) (hl.more_le hd)
theorem tupFoldJ {E : Value → Shared → Prop} {g : List Code} {m : Nat} (hg : A.guards = some g) (hcl : Above R m g) (hu : AO fr j d A) : ∀ (l : List Value) (ts : List Str) (acc : Array Str) (n : Nat) (s : Shared) (Q : (Array Str × Nat) → Shared → Prop), RJs prog w J R fr j d l ts → (∀ x ∈ l, HtLe R m x) → n + piled ts ≤ sizeLine →
    J ps s → (∀ s', J ps s' → Q ⟨acc ++ ts.toArray, n + piled ts⟩ s') → wpAny (model prog w) A (forIn l (⟨acc, n⟩ : (Array Str × Nat)) tupBody) Q E s := by
  intro l
  induction l with
  | nil =>
    intro ts acc n s Q hT _ _ j0 h
    cases hT
    have h0 := h s j0
    simp only [List.forIn_nil]
    exact wpAny_pure (by simpa [piled] using h0)
  | cons x l ih =>
    intro ts acc n s Q hT hk hn j0 h
    cases hT with
    | cons hx hl =>
      rename_i t ts'
      rw [piled_cons] at hn
      rw [List.forIn_cons]
      refine wpAny_bind (wpAny_bind (hx m (hk x (List.mem_cons_self ..)) (n + 1) (by omega) _ _ _ _ _ _ hg hcl hu j0 fun s1 j1 => wpAny_pure ?_))
      refine ih ts' (acc.push t) (n + (t.length + 2)) _ Q hl (fun y hy => hk y (List.mem_cons_of_mem _ hy)) (by omega) j1 fun s2 j2 => ?_
      have h1 := h s2 j2
      have e : n + piled (t :: ts') = n + (t.length + 2) + piled ts' := by rw [piled_cons]; omega
      rw [e] at h1
      simpa using h1
theorem tup_reprAtJ (jo : JOk J R) {a : Addr} {o : Obj} {items : Array Value} {n m base : Nat} {ts : List Str} {g : List Code} {s : Shared} {id : String} {rest : List Value} (hra : R a o) (hd : o.data = .seq items n) (hT : RJs prog w J R fr j d items.toList ts) (hk : ∀ x ∈ items.toList, HtLe R m x)
    (hcg : (Code.builtin id ⟨.ref a :: rest, []⟩).isGuard = true) (hao : AO fr j d (A.under (.builtin id ⟨.ref a :: rest, []⟩)))
    (hg : A.guards = some g) (hcl : Above R m g) (hm : items.toList ≠ [] → ¬ HtLe R m (.ref a)) (hca : Clear g a) (j0 : J ps s)
    (hR : ∀ s' u, J ps s' → Z (.ok (.ret (.str (tupleText ts) u))) s') (hsz : base + (tupleText ts).length ≤ sizeLine) :
    wpOwn (model prog w) A (.builtin id ⟨.ref a :: rest, []⟩) (Builtin.tupleReprAt base ⟨[.ref a], []⟩) (fun fin s' => match fin with | .done f => Z (.ok f) s' | .again c' => c'.quiet = true ∧ codeAny (model prog w) A c' Z s') (fun e s' => Z (.error e) s') s := by
  have hlen : ts.length = items.size := by simpa using hT.length_eq
  have hp := piled_le_tupleText ts
  have hsz0 : (tupleText ts).length ≤ sizeLine := by omega
  rw [tuple_repr_tree, tupleReprUnderWay_eq]
  refine wpOwn_bind (wpOwn_stackTailAny hg (tupGuardF_off _) (tupGuardF_pos _) ?_)
  have hn : (g.any fun c => tupGuardF (.ref a) (c, default)) = false := by
    rw [List.any_eq_false]
    intro c hcm
    rw [tupGuardF_of_clear hca c hcm]
    exact Bool.false_ne_true
  rw [hn]
  refine wpOwn_of_wpAny ?_
  show wpAny _ _ (tupleReprRest base (.ref a)) _ _ s
  unfold tupleReprRest Builtin.Tuple.tupleItemsOf
  refine wpAny_bind (wpAny_bind (wpAny_seqItems (jo.rd j0 hra) hd (wpAny_pure ?_)))
  rw [← Array.forIn_toList]
  have fin : ∀ s', J ps s' → wpAny (model prog w) (A.under (.builtin id ⟨.ref a :: rest, []⟩)) (retStr (tupleText ts)) (fun fin s' => match fin with | .done f => Z (.ok f) s' | .again c' => c'.quiet = true ∧ codeAny (model prog w) A c' Z s') (fun e s' => Z (.error e) s') s' := fun s' j1 =>
    wpAny_bind (wpAny_mkStr (wpAny_pure (hR _ _ (jo.keep j1 fun _ _ e => e))) hsz0)
  by_cases hne : items.toList = []
  · rw [hne] at hT ⊢
    cases hT
    simp only [List.forIn_nil]
    refine wpAny_bind (wpAny_pure ?_)
    have h1 := fin s j0
    have z : items.size = 0 := by simpa using hlen.symm
    simpa [tupleText, z] using h1
  · refine wpAny_bind (tupFoldJ (m := m) (guards_under_guard hcg hg) (hcl.cons (hm hne)) hao _ ts _ _ _ _ hT hk (by omega) j0 fun s' j1 => ?_)
    have h1 := fin s' j1
    simpa [tupleText, hlen] using h1
theorem under_tup {A : Around} {args : Args} : (A.under (.builtin "tuple.__repr__.under" args)).frames = A.frames ∧ (A.under (.builtin "tuple.__repr__.under" args)).depth = A.depth + 1 := by
  constructor
  · first | rfl | simp [Around.under, Code.envs, pushEnvs]
  · first | rfl | simp [Around.under, Code.weight, Code.isCreation, Code.isGuard, Code.isCaller, Code.frames, Code.isFrame, guardIds]
theorem under_tup0 {A : Around} {args : Args} : (A.under (.builtin "tuple.__repr__" args)).frames = A.frames ∧ (A.under (.builtin "tuple.__repr__" args)).depth = A.depth + 1 := by
  constructor
  · first | rfl | simp [Around.under, Code.envs, pushEnvs]
  · first | rfl | simp [Around.under, Code.weight, Code.isCreation, Code.isGuard, Code.isCaller, Code.frames, Code.isFrame, guardIds]
theorem under_dict0 {A : Around} {args : Args} : (A.under (.builtin "dict.__repr__" args)).frames = A.frames ∧ (A.under (.builtin "dict.__repr__" args)).depth = A.depth + 1 := by
  constructor
  · first | rfl | simp [Around.under, Code.envs, pushEnvs]
  · first | rfl | simp [Around.under, Code.weight, Code.isCreation, Code.isGuard, Code.isCaller, Code.frames, Code.isFrame, guardIds]
theorem under_dict {A : Around} {args : Args} : (A.under (.builtin "dict.__repr__.under" args)).frames = A.frames ∧ (A.under (.builtin "dict.__repr__.under" args)).depth = A.depth + 1 := by
  constructor
  · first | rfl | simp [Around.under, Code.envs, pushEnvs]
  · first | rfl | simp [Around.under, Code.weight, Code.isCreation, Code.isGuard, Code.isCaller, Code.frames, Code.isFrame, guardIds]
theorem RJ.tuple (jo : JOk J R) {a : Addr} {oa : Obj} {items : Array Value} {na : Nat} {ts : List Str} (hra : R a oa) (hc : oa.cls = .type "tuple") (hda : oa.data = .seq items na)
    (hT : RJs prog w J R fr j d items.toList ts) : RJ prog w J R fr j (d + 1) (.ref a) (tupleText ts) := by
  intro n hn base hb A g E ps s Q hg hcl hu j0 hQ
  have hT0 : s.TypeIs (.ref a) "tuple" := ⟨oa, jo.rd j0 hra, hc⟩
  obtain ⟨m, lm, hm, q⟩ := hn.least
  have kids : kidsO oa = items.toList := by simp [kidsO, hda]
  have ab := hcl.mono lm
  have go : ∀ k, (∀ y ∈ items.toList, HtLe R k y) → Above R k g → (items.toList ≠ [] → ¬ HtLe R k (.ref a)) → wpAny (model prog w) A (pyReprUnder base (.ref a)) Q E s := fun k hk abk hne => by
    have body := tup_reprAtJ (prog := prog) (w := w) (fr := fr) (j := j) (d := d) (A := A) (Z := callEnd (fun v s' => (∃ x u, v = .str x u) ∧ ∃ x u, v = .str x u ∧ Q x s') E) (ps := ps) (base := base) (id := "tuple.__repr__.under") (rest := [rawInt base]) jo hra hda hT hk (isGuard_tuple_repr_under _)
      (hu.under under_tup.1 under_tup.2 (units_under_tuple_repr_under _ _)) hg abk hne (ab.clear hm) j0 (fun s' u j1 => ⟨⟨_, _, rfl⟩, _, _, rfl, hQ s' j1⟩) hb
    exact wpAny_pyReprUnder_ref (by omega) (wpAny_pyReprObjUnder_twin (twin := "tuple.__repr__.under") hT0 F.slot_tuple_repr rfl (by have := hu.lt; omega)
      (call_twin_own (F.quiet_tuple_repr_under _) F.entry_tuple_repr_under F.check_tuple_repr_under hT0 F.slot_tuple_repr (F.args_tuple_repr_1 _) body))
  rcases q with rfl | ⟨k, rfl, nk⟩
  · have h0 := hm a oa rfl hra
    rw [kids] at h0
    exact go 0 (fun y hy => by rw [h0] at hy; cases hy) (ab.mono (Nat.zero_le _)) fun z => absurd h0 z
  · exact go k (fun y hy => hm a oa rfl hra y (by rw [kids]; exact hy)) (ab.mono (Nat.le_succ k)) fun _ => nk
inductive RJe (prog : Program) (w : World) (J : List (Addr × Obj) → Shared → Prop) (R : Addr → Obj → Prop) (fr : Option (List PySem.Env)) (j d : Nat) : List DictEntry → List Str → Prop
  | nil : RJe prog w J R fr j d [] []
  | cons {e : DictEntry} {k v : Str} {es : List DictEntry} {qs : List Str} : RJ prog w J R fr j d e.key k → RJ prog w J R fr j d e.val v → RJe prog w J R fr j d es qs → RJe prog w J R fr j d (e :: es) ((k ++ ": " ++ v) :: qs)
theorem RJe.length_eq : ∀ {es : List DictEntry} {qs : List Str}, RJe prog w J R fr j d es qs → qs.length = es.length
  | _, _, .nil => rfl
  | _, _, .cons _ _ h => by simp [h.length_eq]
theorem RJe.item : ∀ {es : List DictEntry} {qs : List Str}, RJe prog w J R fr j d es qs → ∀ (i : Nat) (e : DictEntry), es[i]? = some e → ∃ k v : Str, qs[i]? = some (k ++ ": " ++ v) ∧ RJ prog w J R fr j d e.key k ∧ RJ prog w J R fr j d e.val v
  | _, _, .nil, _, _, q => by simp at q
  | _, _, .cons hk hv _, 0, _, q => by
    simp at q
    subst q
    exact ⟨_, _, rfl, hk, hv⟩
  | _, _, .cons _ _ hl, i + 1, e, q => by
    obtain ⟨k, v, hp, r1, r2⟩ := hl.item i e (by simpa using q)
    exact ⟨k, v, by simpa using hp, r1, r2⟩
theorem RJe.of_two : ∀ (es : List DictEntry) (ks vs : List Str), RJs prog w J R fr j d (es.map (·.key)) ks → RJs prog w J R fr j d (es.map (·.val)) vs → RJe prog w J R fr j d es (List.zipWith (fun k v : Str => k ++ ": " ++ v) ks vs)
  | [], _, _, .nil, .nil => .nil
  | _ :: es, _, _, .cons hk hK, .cons hv hV => .cons hk hv (RJe.of_two es _ _ hK hV)
theorem dict_reprAtJ (jo : JOk J R) {a : Addr} {o : Obj} {es : Array DictEntry} {n m base : Nat} {qs : List Str} {g : List Code} {s : Shared} {id : String} {rest : List Value} (hra : R a o) (hc : o.cls = .type "dict") (hd : o.data = .dict es n) (hsys : (a == sysModules) = false) (hE : RJe prog w J R fr j d es.toList qs)
    (hk : ∀ e ∈ es.toList, HtLe R m e.key ∧ HtLe R m e.val) (hcg : (Code.builtin id ⟨.ref a :: rest, []⟩).isGuard = true) (hao : AO fr j d (A.under (.builtin id ⟨.ref a :: rest, []⟩)))
    (hg : A.guards = some g) (hcl : Above R m g) (hm : es.toList ≠ [] → ¬ HtLe R m (.ref a)) (hca : Clear g a) (j0 : J ps s)
    (hR : ∀ s' u, J ps s' → Z (.ok (.ret (.str (dictText qs) u))) s') (hsz : base + (dictText qs).length ≤ sizeLine) :
    wpOwn (model prog w) A (.builtin id ⟨.ref a :: rest, []⟩) (Builtin.dictReprAt base ⟨[.ref a], []⟩) (fun fin s' => match fin with | .done f => Z (.ok f) s' | .again c' => c'.quiet = true ∧ codeAny (model prog w) A c' Z s') (fun e s' => Z (.error e) s') s := by
  have hTy : s.TypeIs (.ref a) "dict" := ⟨o, jo.rd j0 hra, hc⟩
  have hlen : qs.length = es.size := by simpa using hE.length_eq
  have hp3 := piled_le_dictText qs
  have hsz0 : (dictText qs).length ≤ sizeLine := by omega
  unfold Builtin.dictReprAt
  refine wpOwn_bind (wpOwn_of_wpAny ?_)
  unfold Builtin.Dict.dictSlotNone
  refine wpAny_bind (wpAny_notOrdered_dict hTy ?_)
  show wpAny _ _ (pure (Value.ref a)) _ _ s
  refine wpAny_pure ?_
  rw [dictReprRunning_eq]
  refine wpOwn_bind (wpOwn_stackTailAny hg (dictGuardF_off _) (dictGuardF_pos _) ?_)
  have hn : (g.any fun c => dictGuardF (.ref a) (c, default)) = false := by
    rw [List.any_eq_false]
    intro c hcm
    rw [dictGuardF_of_clear hca c hcm]
    exact Bool.false_ne_true
  rw [hn]
  refine wpOwn_of_wpAny ?_
  show wpAny _ _ (Builtin.Dict.addrOf (.ref a) >>= _) _ _ s
  refine wpAny_bind (wpAny_pure ?_)
  show wpAny _ _ (Builtin.Dict.showsAll a >>= _) _ _ s
  unfold Builtin.Dict.showsAll
  rw [if_neg (by rw [hsys]; exact Bool.false_ne_true)]
  refine wpAny_bind (wpAny_pure ?_)
  refine wpAny_bind (wpAny_dictEpoch (jo.rd j0 hra) hd ?_)
  refine wpAny_bind (wpAny_dictEntries (jo.rd j0 hra) hd ?_)
  refine wpAny_bind ?_
  rw [Std.Legacy.Range.forIn_eq_forIn_range']
  simp only [Std.Legacy.Range.size, Nat.sub_zero, Nat.add_sub_cancel, Nat.div_one]
  refine wpAny_forIn_list _
    (fun rest' r s' => ∃ i, rest' = List.range' i (es.size - i) ∧ i ≤ es.size ∧ r = (⟨(qs.take i).toArray, base + piled (qs.take i)⟩ : (Array Str × Nat)) ∧ J ps s')
    _ ?_ ?_ _ _ ⟨0, by simp, Nat.zero_le _, by simp [piled], j0⟩
  · rintro x rest' _ s' ⟨i, hr, hi, rfl, j1⟩
    have hlt : i < es.size := by
      rcases Nat.lt_or_ge i es.size with h | h
      · exact h
      · rw [Nat.sub_eq_zero_of_le h] at hr; simp at hr
    obtain ⟨rfl, hrest⟩ : x = i ∧ rest' = List.range' (i + 1) (es.size - (i + 1)) := by
      have e : es.size - i = (es.size - (i + 1)) + 1 := by omega
      rw [e, List.range'_succ] at hr
      injection hr with h1 h2
      exact ⟨h1, h2⟩
    have hmem : es[x] ∈ es.toList := by simp
    have hne : es.toList ≠ [] := fun z => by rw [z] at hmem; cases hmem
    obtain ⟨k, v, hp, rk, rv⟩ := hE.item x es[x] (by simp [hlt])
    have hpl : (k ++ ": " ++ v).length = k.length + 2 + v.length := by
      rw [strLen_append, strLen_append]; rfl
    have hp1 := piled_take_succ hp
    have hp2 := piled_take_le qs (x + 1)
    rw [hpl] at hp1
    have hg' := guards_under_guard hcg hg
    have hcl' := hcl.cons (id := id) (rest := rest) (kw := []) (hm hne)
    refine wpAny_bind (wpAny_dictEntries (jo.rd j1 hra) hd ?_)
    rw [Array.getElem?_eq_getElem hlt]
    refine wpAny_bind (wpAny_holding (wpAny_bind (rk m (hk _ hmem).1 (base + piled (qs.take x) + 1) (by omega) _ _ _ _ _ _ hg' hcl' hao j1 fun s1 j2 =>
      wpAny_bind (rv m (hk _ hmem).2 (base + piled (qs.take x) + (k.length + 3)) (by omega) _ _ _ _ _ _ hg' hcl' hao j2 fun s2 j3 => wpAny_pure ?_))))
    refine wpAny_bind (wpAny_dictEpoch (jo.rd j3 hra) hd ?_)
    rw [if_neg (by simp)]
    have e1 : (qs.take x).toArray.push (k ++ ": " ++ v) = (qs.take (x + 1)).toArray := by
      rw [List.take_add_one, hp]
      simp
    have e2 : base + piled (qs.take x) + (k.length + v.length + 4) = base + piled (qs.take (x + 1)) := by omega
    refine wpAny_pure ⟨x + 1, hrest, hlt, ?_, j3⟩
    rw [e1, e2]
  · rintro _ s' ⟨i, hr, hi, rfl, j1⟩
    have hin : i = es.size := by
      rcases Nat.lt_or_ge i es.size with h | h
      · have e : es.size - i = (es.size - (i + 1)) + 1 := by omega
        rw [e, List.range'_succ] at hr; exact nomatch hr
      · exact Nat.le_antisymm hi h
    rw [hin, ← hlen, List.take_length]
    refine wpAny_bind (wpAny_mkStr (wpAny_pure ?_) (by simpa [dictText] using hsz0))
    have h1 := hR { s' with toks := s'.toks + 1 } s'.toks (jo.keep j1 fun _ _ e => e)
    simpa [dictText] using h1
theorem RJ.dict (jo : JOk J R) {a : Addr} {oa : Obj} {es : Array DictEntry} {na : Nat} {qs : List Str} (hra : R a oa) (hc : oa.cls = .type "dict") (hda : oa.data = .dict es na) (hsys : (a == sysModules) = false)
    (hE : RJe prog w J R fr j d es.toList qs) : RJ prog w J R fr j (d + 1) (.ref a) (dictText qs) := by
  intro n hn base hb A g E ps s Q hg hcl hu j0 hQ
  have hT0 : s.TypeIs (.ref a) "dict" := ⟨oa, jo.rd j0 hra, hc⟩
  obtain ⟨m, lm, hm, q⟩ := hn.least
  have kids : kidsO oa = es.toList.map (·.key) ++ es.toList.map (·.val) := by simp [kidsO, hda]
  have ab := hcl.mono lm
  have go : ∀ k, (∀ e ∈ es.toList, HtLe R k e.key ∧ HtLe R k e.val) → Above R k g → (es.toList ≠ [] → ¬ HtLe R k (.ref a)) → wpAny (model prog w) A (pyReprUnder base (.ref a)) Q E s := fun k hk abk hne => by
    have body := dict_reprAtJ (prog := prog) (w := w) (fr := fr) (j := j) (d := d) (A := A) (Z := callEnd (fun v s' => (∃ x u, v = .str x u) ∧ ∃ x u, v = .str x u ∧ Q x s') E) (ps := ps) (base := base) (id := "dict.__repr__.under") (rest := [rawInt base]) jo hra hc hda hsys hE hk (isGuard_dict_repr_under _)
      (hu.under under_dict.1 under_dict.2 (units_under_dict_repr_under _ _)) hg abk hne (ab.clear hm) j0 (fun s' u j1 => ⟨⟨_, _, rfl⟩, _, _, rfl, hQ s' j1⟩) hb
    exact wpAny_pyReprUnder_ref (by omega) (wpAny_pyReprObjUnder_twin (twin := "dict.__repr__.under") hT0 F.slot_dict_repr rfl (by have := hu.lt; omega)
      (call_twin_own (F.quiet_dict_repr_under _) F.entry_dict_repr_under F.check_dict_repr_under hT0 F.slot_dict_repr (F.args_dict_repr_1 _) body))
  rcases q with rfl | ⟨k, rfl, nk⟩
  · have h0 := hm a oa rfl hra
    rw [kids] at h0
    have h1 : es.toList = [] := by
      have := List.append_eq_nil_iff.mp h0
      simpa using this.1
    exact go 0 (fun y hy => by rw [h1] at hy; cases hy) (ab.mono (Nat.zero_le _)) fun z => absurd h1 z
  · exact go k (fun y hy => ⟨hm a oa rfl hra _ (by rw [kids]; exact List.mem_append_left _ (List.mem_map_of_mem hy)), hm a oa rfl hra _ (by rw [kids]; exact List.mem_append_right _ (List.mem_map_of_mem hy))⟩) (ab.mono (Nat.le_succ k)) fun _ => nk
end
end PI
set_option maxHeartbeats 1000000
/-! PIRepI: repr of things that hold instances, under the invariant. -/
namespace PySem.W
open PySem
section
variable {M : Model} {A : Around} {E : Value → Shared → Prop} {s : Shared} {K : PySem.W.Frag} {x C f : Addr} {ox : Obj} {od : Option Obj}
theorem ifBoundBy_K {name : Str} {last : Value → List Value → Sem Value} {Q : Option Value → Shared → Prop} (X : K.In s.heap) (I : InstAt s.heap x ox C od) (hs : findIn K (.ref C) name = some (some (.ref f))) (hf : isFn K (.ref f) = true)
    (h : wpAny M A (last (.ref f) [.ref x]) (fun v => Q (some v)) E s) : wpAny M A (callSpecialIfBoundBy? last (.ref x) name) Q E s := by
  simp only [callSpecialIfBoundBy?, bindSpecialIfBound?]
  refine wpAny_holding (wpAny_bind (wpAny_bind (wpAny_bind (I.type.here ((looks_findIn X hs).here ?_)))))
  refine wpAny_bind (wpAny_askSetting (wpAny_ite ?_))
  have fin : wpAny M A (last (.ref f) [.ref x] >>= fun v => pure (some v)) Q E s := wpAny_bind (wpAny_mono h (fun v s' h' => wpAny_pure h') fun _ _ h' => h')
  split
  · exact wpAny_bind ((bind_fn X _ (beq_iff_eq.mp hf)).here (wpAny_pure (by exact fin)))
  · exact wpAny_tryCatch (wpAny_bind ((bind_fn X _ (beq_iff_eq.mp hf)).here (wpAny_pure (by exact fin))))
theorem reprUnder_K {b : Nat} {Q : Value → Shared → Prop} (hu : A.units < cLine) (X : K.In s.heap) (I : InstAt s.heap x ox C od) (hs : findIn K (.ref C) "__repr__" = some (some (.ref f))) (hf : isFn K (.ref f) = true)
    (h : wpAny M A (call (.ref f) [.ref x]) (StrBack Q) E s) : wpAny M A (pyReprObjUnder b (.ref x)) (fun v s' => ∃ y u, v = .str y u ∧ Q v s') E s := by
  unfold pyReprObjUnder pyReprObjBy
  refine wpAny_bind (wpAny_cRoomFor hu ?_)
  refine wpAny_bind (wpAny_bind (I.type.here ((looks_findIn X hs).here ?_)))
  show wpAny _ _ (if (some (Value.ref f)).isNone = true then _ else _) _ _ _
  rw [if_neg (by simp)]
  refine wpAny_bind (m := callSpecialIfBoundBy? _ (.ref x) (Str.ofString "__repr__")) (ifBoundBy_K X I hs hf (wpAny_mono h (fun r s' hr => ?_) fun _ _ y => y))
  cases r <;> first | exact hr.elim | skip
  refine wpAny_bind (wpAny_isInstance (typeIs_str _ _ _) isSubtype_str_str ?_)
  first
    | exact wpAny_pure ⟨_, _, rfl, hr⟩
    | (rw [if_pos rfl]; exact wpAny_pure ⟨_, _, rfl, hr⟩)
    | (simp only [if_true]; exact wpAny_pure ⟨_, _, rfl, hr⟩)
end
end PySem.W
namespace PI
open PySem PySem.Spec PyProof.Rows L2
abbrev Ga.dim (G : Ga) : Ga := { G with pg := false }
theorem dim_eq {G : Ga} : GaEq false G G.dim := ⟨rfl, rfl, rfl, rfl, fun h => nomatch h⟩
section
variable {X : Cx} {G : Ga} {W : WX} {k j ci : Nat} {g : Gs} {H : Hp} {pins : List (Addr × Obj)} {σ : St} {s : Shared}
/-- the objects that stay as they are -/
def RS (G : Ga) (H : Hp) (a : Addr) (o : Obj) : Prop := (∃ u, H a = some (.frz o u)) ∨ G.K.lookup a = some o
/-- pinned lists are apart from all else -/
def PinsOk (X : Cx) (pins : List (Addr × Obj)) : List (Addr × Obj) → Prop
  | [] => True
  | p :: ps => (p.1 ≠ X.env.locals ∧ p.1 ∉ X.fs ∧ X.s_0.heap.objs.size ≤ p.1 ∧ (∀ x c, X.env.cells.lookup x = some c → c ≠ p.1) ∧ (∀ q ∈ X.pn ++ (ps ++ pins), q.1 ≠ p.1)) ∧ PinsOk X pins ps
def JI (X : Cx) (pins : List (Addr × Obj)) (σ : St) (H : Hp) (ps : List (Addr × Obj)) (s : Shared) : Prop := ∃ H', Inv X (ps ++ pins) σ H' s ∧ Grow H H' ∧ PinsOk X pins ps
theorem Inv.less1 {p : Addr × Obj} {ps : List (Addr × Obj)} (I : Inv X (p :: ps) σ H s) : Inv X ps σ H s := I.pins_of fun q hq => I.pin q (List.mem_append_right _ (List.mem_cons_of_mem _ hq))
theorem ji_ok (hK : X.K = G.K) : JOk (JI X pins σ H) (RS G H) where
  rd := fun ⟨H', I, w, _⟩ b o r => by
    rcases r with ⟨u, e⟩ | e
    · exact (I.hok b _ (w b _ e)).1
    · rw [← hK] at e
      exact I.kIn _ _ e
  pin := fun ⟨H', I, _, _⟩ => (I.pin _ (List.mem_append_right _ (List.mem_cons_self ..))).1
  drop := fun ⟨H', I, w, p⟩ => ⟨H', Inv.less1 I, w, p.2⟩
  keep := fun ⟨H', I, w, p⟩ kk => ⟨H', I.kept kk, w, p⟩
  push := fun {ps s h' tk P acc c} ⟨H', I, w, p⟩ kk hP e => by
    have lt : ∀ {b o}, s.heap.get? b = some o → b ≠ P := fun {b o} q z => by
      have := Nat.lt_of_lt_of_le (Heap.lt_size q) hP
      rw [z] at this
      exact Nat.lt_irrefl _ this
    have hn : H' P = none := I.hok.fresh hP
    have c1 : P ≠ X.env.locals := fun z => by
      have := Nat.lt_of_lt_of_le I.lt hP
      rw [z] at this
      exact Nat.lt_irrefl _ this
    have c2 : P ∉ X.fs := I.nofs hP
    have c4 : ∀ x c, X.env.cells.lookup x = some c → c ≠ P := fun x c q z => by
      obtain ⟨v, o, ho, _⟩ := I.cell x c q
      exact lt ho z
    have c5 : ∀ q ∈ X.pn ++ (ps ++ pins), q.1 ≠ P := fun q hq => lt (I.pin q hq).1
    have I2 := I.kept (t' := tk) kk
    refine ⟨H', I2.pins_of fun q hq => ?_, w, ⟨c1, c2, Nat.le_trans I.sz hP, c4, c5⟩, p⟩
    rcases List.mem_cons.mp hq with z | hq
    · subst z
      exact ⟨e, hn, c1, c2, fun v => nofun⟩
    · exact I2.pin q (List.mem_append_right _ hq)
  upd := fun {ps s h' tk P acc acc' c c'} ⟨H', I, w, p⟩ kk e => by
    obtain ⟨⟨c1, c2, c3, c4, c5⟩, p2⟩ := p
    have hn := (I.pin _ (List.mem_append_right _ (List.mem_cons_self ..))).2.1
    have I2 := (Inv.less1 I).turned (t' := tk) kk hn c1 (.inr c3) c4 c5
    refine ⟨H', I2.pins_of fun q hq => ?_, w, ⟨c1, c2, c3, c4, c5⟩, p2⟩
    rcases List.mem_cons.mp hq with z | hq
    · subst z
      exact ⟨e, hn, c1, c2, fun v => nofun⟩
    · exact I2.pin q (List.mem_append_right _ hq)
/-! heights and texts of values -/
variable {fr : Option (List PySem.Env)} {f : Addr} {fd : FuncData} {pl : List Str} {sem : FT} {d : Nat}
theorem grow_is {H' : Hp} (w : Grow H H') {x : PI.D} {v : V} (h : Is G g H x v) : Is G g H' x v := Is.nextI ⟨⟨[], by simp⟩, fun a o e _ => w a o e⟩ h
theorem rj_ins (hK : X.K = G.K) (h : KnS X.prog X.w G.dim X.mg X.base j ci "__repr__" pl sem f fd) {fs : List (Nat × PI.D)} {a : Addr} {t : List Nat} (q : Is G g H (.ins ci fs) (.ref a)) (e : txtOf sem (.ins ci fs) = some t) :
    RJ X.prog X.w (JI X pins σ H) (RS G H) X.A.frames j d (.ref a) ⟨t.toArray⟩ := by
  intro n hn base hb A g0 E ps s Q hg hcl hu ⟨H', I, w, po⟩ hQ
  have q' := grow_is w q
  obtain ⟨a2, dx, vfs, e2, rd, fl⟩ := vw_ins (show Vw G g H' (.ins ci fs) (.ref a) from .inl q')
  cases e2
  obtain ⟨mA, O, _⟩ := rd_ins rd I.hok
  obtain ⟨od, J, _⟩ := O.look
  have hat := h.at_
  have hif := h.isf
  have hat : PySem.W.findIn X.K (.ref (G.ca ci)) "__repr__" = some (some (.ref f)) := by rw [hK]; exact hat
  have hif : PySem.W.isFn X.K (.ref f) = true := by rw [hK]; exact hif
  have hl : limL false 0 [PI.D.ins ci fs] = true := (txtOf_mk e).2
  have q2 : Is G.dim g H' (.ins ci fs) (.ref a) := by
    have := IsL.turn (g' := g) (dim_eq (G := G)) (fun n hn => absurd hn (Nat.not_lt_zero n)) hl (show IsL G g H' [.ins ci fs] [.ref a] from by simp only [IsL]; exact ⟨q', trivial⟩)
    simp only [IsL] at this
    exact this.1
  have hu2 := hu
  have hr : RoomI G.dim.pg j A := ⟨⟨hu.hd, by have := hu.dp; omega, by have := hu.un; omega⟩, (fun z => by cases z), g0, hg⟩
  refine wpAny_pyReprUnder_ref (by omega) (wpAny_mono (PySem.W.reprUnder_K (Q := fun v s' => ∃ x u, v = .str x u ∧ Q x s') (by have := hu.lt; omega) I.kIn J hat hif (txt_run (X := X.wish E) (G := G.dim) hK h hr hu.fr (I.wish E) q2 e fun s' H2 tk I2 w2 lz => ⟨_, _, rfl, hQ s' ⟨H2, I2.unwish, fun b o z => w2 b o (w b o z), po⟩⟩)) (fun v s' ⟨y, u, e1, x, u2, e3, z⟩ => ?_) fun _ _ z => z)
  exact ⟨x, u2, e3, z⟩
theorem stat_lst (hK : X.K = G.K) (I : Inv X pins σ H s) {a : Addr} {vs : List V} (q : LF H G.K a vs) : ∃ (o : Obj) (its : List Value) (n : Nat), RS G H a o ∧ s.heap.get? a = some o ∧ o.cls = .type "list" ∧ o.data = .seq its.toArray n ∧ Vals vs its := by
  rcases q with ⟨o, q⟩ | ⟨its, n, e, l, r⟩
  · obtain ⟨e1, _, its, n, r, e2⟩ := I.hok a _ q
    have := e1.symm.trans e2
    cases this
    exact ⟨_, its, n, .inl ⟨_, q⟩, e1, rfl, rfl, r⟩
  · exact ⟨_, its, n, .inr e, I.kIn _ _ (by rw [hK]; exact e), rfl, rfl, r⟩
theorem stat_tup (hK : X.K = G.K) (I : Inv X pins σ H s) {a : Addr} {vs : List V} (q : SqS H G.K a vs) : ∃ (o : Obj) (its : List Value) (n : Nat), RS G H a o ∧ s.heap.get? a = some o ∧ o.cls = .type "tuple" ∧ o.data = .seq its.toArray n ∧ Vals vs its := by
  rcases q with ⟨o, q, _⟩ | ⟨o, its, n, e, ec, _, ed, l, r⟩
  · obtain ⟨e1, _, its, r, o2, e2, ec, n, ed⟩ := I.hok a _ q
    have := e1.symm.trans e2
    cases this
    exact ⟨o, its, n, .inl ⟨_, q⟩, e1, ec, ed, r⟩
  · exact ⟨o, its.toList, n, .inr e, I.kIn _ _ (by rw [hK]; exact e), ec, by rw [ed], r⟩
theorem stat_dic (I : Inv X pins σ H s) {a : Addr} {o : Obj} {ks : List (Key × V)} (q : H a = some (.frz o (.dK ks))) : ∃ (es : Array DictEntry) (n : Nat), RS G H a o ∧ s.heap.get? a = some o ∧ o.cls = .type "dict" ∧ o.data = .dict es n ∧ (a == sysModules) = false ∧ Vals (ks.map fun p => kV p.1) (es.toList.map (·.key)) ∧ Vals (ks.map (·.2)) (es.toList.map (·.val)) := by
  obtain ⟨e1, _, hs, vs, kv, o2, es, ep, ho, hx, hd, hko, hp, nd⟩ := I.hok a _ q
  have := e1.symm.trans ho
  cases this
  obtain ⟨w1, w2⟩ := pairs_split hp
  obtain ⟨w3, w4⟩ := kv_split kv
  rw [w3] at w1
  rw [← w2] at w4
  exact ⟨es, ep, .inl ⟨_, q⟩, e1, hx.1, hd, hs, w1, w4⟩
theorem rs_fun (hK : X.K = G.K) (I : Inv X pins σ H s) {a : Addr} {o o2 : Obj} (h : RS G H a o) (e : s.heap.get? a = some o2) : o = o2 := by
  have : s.heap.get? a = some o := by
    rcases h with ⟨u, q⟩ | q
    · exact (I.hok a _ q).1
    · exact I.kIn _ _ (by rw [hK]; exact q)
  rw [this] at e
  cases e
  rfl
/-- what is told of a value that is shown as t -/
structure Sh (X : Cx) (G : Ga) (pins : List (Addr × Obj)) (σ : St) (H : Hp) (j d : Nat) (u : Value) (t : Str) : Prop where
  ht : HtLe (RS G H) d u
  rj : RJ X.prog X.w (JI X pins σ H) (RS G H) X.A.frames j d u t
theorem Sh.le {u : Value} {t : Str} {e : Nat} (h : Sh X G pins σ H j d u t) (l : d ≤ e) : Sh X G pins σ H j e u t := ⟨h.ht.mono l, h.rj.level_le l⟩
structure Shs (X : Cx) (G : Ga) (pins : List (Addr × Obj)) (σ : St) (H : Hp) (j d : Nat) (us : List Value) (ts : List Str) : Prop where
  ht : ∀ u ∈ us, HtLe (RS G H) d u
  rj : RJs X.prog X.w (JI X pins σ H) (RS G H) X.A.frames j d us ts
theorem Shs.cons {u : Value} {t : Str} {us : List Value} {ts : List Str} {d e : Nat} (h : Sh X G pins σ H j d u t) (hs : Shs X G pins σ H j e us ts) : Shs X G pins σ H j (max d e) (u :: us) (t :: ts) :=
  ⟨fun x hx => by
    rcases List.mem_cons.mp hx with rfl | hx
    · exact h.ht.mono (Nat.le_max_left _ _)
    · exact (hs.ht x hx).mono (Nat.le_max_right _ _), .cons (h.rj.level_le (Nat.le_max_left _ _)) (hs.rj.more_le (Nat.le_max_right _ _))⟩
theorem Shs.le {us : List Value} {ts : List Str} {d e : Nat} (h : Shs X G pins σ H j d us ts) (l : d ≤ e) : Shs X G pins σ H j e us ts := ⟨fun u hu => (h.ht u hu).mono l, h.rj.more_le l⟩
theorem ht_seq (hK : X.K = G.K) (I : Inv X pins σ H s) {a : Addr} {o : Obj} {d : Nat} {us : List Value} (e : s.heap.get? a = some o) (hk : kidsO o = us) (h : ∀ u ∈ us, HtLe (RS G H) d u) : HtLe (RS G H) (d + 1) (.ref a) := fun b o2 eb r x hx => by
  cases eb
  rw [rs_fun hK I r e, hk] at hx
  exact h x hx
theorem zip_txt : ∀ (ks vs : List Str), ks.length = vs.length → List.zipWith (fun k v : Str => k ++ ": " ++ v) ks vs = (ks.zip vs).map fun p => (p.1 ++ (": " : Str) ++ p.2 : Str)
  | [], [], _ => rfl
  | k :: ks, v :: vs, h => by simp only [List.zipWith_cons_cons, List.zip_cons_cons, List.map_cons, zip_txt ks vs (by simpa using h)]
  | [], _ :: _, h => by simp at h
  | _ :: _, [], h => by simp at h
variable (hK : X.K = G.K) (h : KnS X.prog X.w G.dim X.mg X.base j ci "__repr__" pl sem f fd) (I : Inv X pins σ H s)
include hK h I
mutual
theorem Is.sh : ∀ {x : PI.D} {v : V} {u : Value} {t : Str}, Is G g H x v → RelV v u → x.rpN ci sem = some t → t.length ≤ sizeLine → Sh X G pins σ H j x.htN u t
  | .non, v, u, t, q, r, e, _ => by
    simp only [Is] at q
    subst q
    cases r
    cases e
    exact ⟨.leaf _ fun _ => nofun, .of_is (ji_ok hK) ReprIs.none⟩
  | .bl b, v, u, t, q, r, e, _ => by
    simp only [Is] at q
    subst q
    cases r
    cases e
    exact ⟨.leaf _ fun _ => nofun, .of_is (ji_ok hK) (ReprIs.bool b)⟩
  | .int i, v, u, t, q, r, e, _ => by
    simp only [Is] at q
    subst q
    obtain ⟨tk, rfl⟩ := r
    simp only [D.rpN] at e
    split at e
    · rename_i hl
      cases e
      exact ⟨.leaf _ fun _ => nofun, .of_is (ji_ok hK) (ReprIs.int tk hl)⟩
    · cases e
  | .str cs, v, u, t, q, r, e, hz => by
    simp only [Is] at q
    obtain ⟨rfl, _⟩ := q
    obtain ⟨tk, rfl⟩ := r
    cases e
    exact ⟨.leaf _ fun _ => nofun, .of_is (ji_ok hK) (ReprIs.str _ tk hz)⟩
  | .tup xs, v, u, t, q, r, e, hz => by
    simp only [Is] at q
    obtain ⟨a, vs, rfl, q, rl⟩ := q
    cases r
    simp only [D.rpN] at e
    obtain ⟨ts, e1, rfl⟩ := Option.map_eq_some_iff.mp e
    obtain ⟨o, its, n, r1, r2, r3, r4, r5⟩ := stat_tup hK I q
    have hs := Is.shL rl r5 e1 fun t ht => Nat.le_trans (tupleText_mem_le ht) hz
    simp only [D.htN]
    exact ⟨ht_seq hK I r2 (by simp [kidsO, r4]) hs.ht, RJ.tuple (ji_ok hK) r1 r3 r4 (by simpa using hs.rj)⟩
  | .lst xs, v, u, t, q, r, e, hz => by
    simp only [Is] at q
    obtain ⟨a, vs, rfl, q, rl⟩ := q
    cases r
    simp only [D.rpN] at e
    obtain ⟨ts, e1, rfl⟩ := Option.map_eq_some_iff.mp e
    obtain ⟨o, its, n, r1, r2, r3, r4, r5⟩ := stat_lst hK I q
    have hs := Is.shL rl r5 e1 fun t ht => Nat.le_trans (listText_mem_le ht) hz
    simp only [D.htN]
    exact ⟨ht_seq hK I r2 (by simp [kidsO, r4]) hs.ht, RJ.list (ji_ok hK) r1 r3 r4 hs.rj.length_eq fun i y e => hs.rj.item i y e⟩
  | .dic kvs, v, u, t, q, r, e, hz => by
    simp only [Is] at q
    obtain ⟨a, o, rfl, q⟩ := q
    cases r
    simp only [D.rpN] at e
    split at e
    · rename_i hk
      obtain ⟨ts, e1, rfl⟩ := Option.map_eq_some_iff.mp e
      rcases q with ⟨ks, q, rl⟩ | ⟨ks, q, rl⟩
      · obtain ⟨es, n, r1, r2, r3, r4, r5, r6, r7⟩ := stat_dic (G := G) I q
        obtain ⟨k1, v1, hs1, hs2, e2, e3⟩ := Is.shK rl hk r6 r7 e1 fun t ht => Nat.le_trans (dictText_mem_le ht) hz
        simp only [D.htN]
        refine ⟨ht_seq hK I r2 (us := es.toList.map (·.key) ++ es.toList.map (·.val)) (by simp [kidsO, r4]) fun x hx => ?_, RJ.dict (ji_ok hK) r1 r3 r4 r5 ?_⟩
        · rcases List.mem_append.mp hx with hx | hx
          · exact (hs1.ht x hx).mono (Nat.zero_le _)
          · exact hs2.ht x hx
        · rw [e2, ← zip_txt _ _ e3]
          exact RJe.of_two es.toList k1 v1 (hs1.rj.more_le (Nat.zero_le _)) hs2.rj
      · exact absurd (isT_keys rl.2 hk).1 rl.1
    · cases e
  | .ins c fs, v, u, t, q, r, e, hz => by
    simp only [D.rpN] at e
    split at e
    · rename_i hc
      subst hc
      obtain ⟨t2, e1, rfl⟩ := Option.map_eq_some_iff.mp e
      obtain ⟨a, dx, vfs, rfl, rd, fl⟩ := vw_ins (show Vw G g H (.ins c fs) v from .inl q)
      cases (show u = Value.ref a from r)
      have q0 := q
      simp only [Is] at q0
      obtain ⟨a2, dx2, vfs2, o, ea, qH, _⟩ := q0
      cases ea
      obtain ⟨z1, z2, z3, z4, z5, _⟩ := I.hok a _ qH
      refine ⟨fun b o2 eb rr => ?_, rj_ins hK h q e1⟩
      cases eb
      rw [rs_fun hK I rr z5]
      rfl
    · cases e
  | .tupw _, v, u, t, q, r, e, _ => by cases e
  | .exn _ _, v, u, t, q, r, e, _ => by cases e
  | .obj _, v, u, t, q, r, e, _ => by cases e
  | .fn _, v, u, t, q, r, e, _ => by cases e
  | .cls _, v, u, t, q, r, e, _ => by cases e
  | .ty _, v, u, t, q, r, e, _ => by cases e
theorem Is.shL : ∀ {xs : List PI.D} {vs : List V} {us : List Value} {ts : List Str}, IsL G g H xs vs → Vals vs us → rpNL ci sem xs = some ts → (∀ t ∈ ts, t.length ≤ sizeLine) → Shs X G pins σ H j (htNL xs) us ts
  | [], [], us, ts, q, r, e, _ => by
    cases r
    cases e
    exact ⟨fun _ => nofun, .nil⟩
  | x :: xs, v :: vs, us, ts, q, r, e, hz => by
    simp only [IsL] at q
    cases r with
    | cons r1 r2 =>
      simp only [rpNL] at e
      obtain ⟨t, e1, e2⟩ := Option.bind_eq_some_iff.mp e
      obtain ⟨ts', e3, rfl⟩ := Option.map_eq_some_iff.mp e2
      simp only [htNL]
      exact .cons (Is.sh q.1 r1 e1 (hz t (List.mem_cons_self ..))) (Is.shL q.2 r2 e3 fun y hy => hz y (List.mem_cons_of_mem _ hy))
  | [], _ :: _, _, _, q, _, _, _ => by simp only [IsL] at q
  | _ :: _, [], _, _, q, _, _, _ => by simp only [IsL] at q
theorem Is.shK : ∀ {kvs : List (PI.D × PI.D)} {ks : List (Key × V)} {us ws : List Value} {ts : List Str}, IsK G g H kvs ks → (kvs.all fun p => p.1.flatKey) = true → Vals (ks.map fun p => kV p.1) us → Vals (ks.map (·.2)) ws → rpNK ci sem kvs = some ts → (∀ t ∈ ts, t.length ≤ sizeLine) →
    ∃ k1 v1, Shs X G pins σ H j 0 us k1 ∧ Shs X G pins σ H j (htNK kvs) ws v1 ∧ ts = (k1.zip v1).map (fun p => (p.1 ++ (": " : Str) ++ p.2 : Str)) ∧ k1.length = v1.length
  | [], [], us, ws, ts, q, _, r1, r2, e, _ => by
    cases r1
    cases r2
    cases e
    exact ⟨[], [], ⟨fun _ => nofun, .nil⟩, ⟨fun _ => nofun, .nil⟩, rfl, rfl⟩
  | (k, x) :: kvs, (kk, v) :: ks, us, ws, ts, q, fk, r1, r2, e, hz => by
    simp only [IsK] at q
    rw [List.all_cons, Bool.and_eq_true] at fk
    cases r1 with
    | cons a1 a2 =>
      cases r2 with
      | cons b1 b2 =>
        simp only [rpNK] at e
        obtain ⟨t, e1, e2⟩ := Option.bind_eq_some_iff.mp e
        obtain ⟨t2, e3, e4⟩ := Option.bind_eq_some_iff.mp e2
        obtain ⟨ts', e5, rfl⟩ := Option.map_eq_some_iff.mp e4
        have hl := hz _ (List.mem_cons_self ..)
        have hpl : (t ++ ": " ++ t2).length = t.length + 2 + t2.length := by
          rw [strLen_append, strLen_append]; rfl
        obtain ⟨k1, v1, h1, h2, e6, e7⟩ := Is.shK q.2.2 fk.2 a2 b2 e5 fun y hy => hz y (List.mem_cons_of_mem _ hy)
        have s1 := Is.sh q.1 a1 e1 (by omega)
        have s2 := Is.sh q.2.1 b1 e3 (by omega)
        have kz : k.htN = 0 := by cases k <;> first | rfl | (simp [D.flatKey] at fk)
        rw [kz] at s1
        refine ⟨t :: k1, t2 :: v1, by simpa using Shs.cons s1 h1, by simp only [htNK]; exact .cons s2 h2, by simp [e6], by simp [e7]⟩
  | [], _ :: _, _, _, _, q, _, _, _, _, _ => by simp only [IsK] at q
  | (_, _) :: _, [], _, _, _, q, _, _, _, _, _ => by simp only [IsK] at q
end
omit hK h I in
theorem rt_call [PgT G] (c0 : XI X G W k) (h : KnS X.prog X.w G.dim X.mg X.base j ci "__repr__" pl sem f fd) (hj : j + 6 ≤ k) (I : Inv X pins σ H s) {x : PI.D} {v : V} {u : Value} {t : Str} (q : Is G g H x v) (r : RelV v u) (hb : x.isBox = true) (e : x.rpN ci sem = some t) (hz : t.length ≤ 1000000) (hd : x.htN ≤ 12)
    {Q : Value → Shared → Prop} (hQ : ∀ s' H' tk, Inv X pins σ H' s' → Grow H H' → Q (.str t tk) s') : wpAny (model X.prog X.w) X.A (call (.builtin "repr") [u]) Q X.xe s := by
  have hK := c0.K
  have hz0 : t.length ≤ sizeLine := by rw [sizeLine_eq]; omega
  have g0 : X.A.in1.guards = some [] := c0.gd.1 PgT.h
  have jo := ji_ok (X := X) (G := G) (pins := pins) (σ := σ) (H := H) hK
  have j0 : JI X pins σ H [] s := ⟨H, I, Grow.refl H, trivial⟩
  have fin : ∀ s' : Shared, JI X pins σ H [] s' → ∀ tk, Q (.str t tk) s' := fun s' ⟨H', I', w, _⟩ tk => hQ s' H' tk I' w
  have ab : ∀ n, Above (RS G H) n [] := fun n id v rest kw hm => by cases hm
  have hu1 : X.A.units + 1 < cLine := by have := c0.rm.un; omega
  have ao : ∀ d, d ≤ 12 → AO X.A.frames j d X.A.in1 := fun d hd => ⟨rfl, c0.hd, by have := c0.rm.dp; show X.A.depth + d + 3 * j + 5 < _; omega, by have := c0.rm.un; show X.A.units + 1 + d + 16 * j + 200 < _; omega⟩
  cases x with
  | tup xs =>
    simp only [Is] at q
    obtain ⟨a, vs, rfl, q, rl⟩ := q
    cases r
    simp only [D.rpN] at e
    obtain ⟨ts, e1, rfl⟩ := Option.map_eq_some_iff.mp e
    obtain ⟨o, its, n, r1, r2, r3, r4, r5⟩ := stat_tup hK I q
    have hs := Is.shL hK h I rl r5 e1 fun t ht => Nat.le_trans (tupleText_mem_le ht) hz0
    have hTy : s.TypeIs (.ref a) "tuple" := ⟨o, r2, r3⟩
    simp only [D.htN] at hd
    have A1 := ao (htNL xs + 1) hd
    have hn : HtLe (RS G H) (htNL xs + 1) (.ref a) := ht_seq hK I r2 (by simp [kidsO, r4]) hs.ht
    obtain ⟨m, lm, hm, cs⟩ := hn.least
    have go : ∀ k2, (∀ y ∈ its, HtLe (RS G H) k2 y) → (its ≠ [] → ¬ HtLe (RS G H) k2 (.ref a)) → wpAny (model X.prog X.w) X.A (call (.builtin "repr") [.ref a]) Q X.xe s := fun k2 hk2 hne => by
      have body := tup_reprAtJ (prog := X.prog) (w := X.w) (fr := X.A.frames) (j := j) (d := htNL xs) (A := X.A.in1) (Z := callEnd (fun v s' => ∃ x t, v = .str x t ∧ Q v s') X.xe) (ps := []) (base := 0) (id := "tuple.__repr__") (rest := []) jo r1 r4 (by simpa using hs.rj) (by simpa using hk2) (isGuard_tuple_repr _)
        (A1.under under_tup0.1 under_tup0.2 (units_under_tuple_repr _ _)) g0 (ab _) (by simpa using hne) (Clear.nil a) j0 (fun s' u j1 => ⟨_, _, rfl, fin s' j1 _⟩) (by omega)
      exact call_repr_slot hu1 hTy F.slot_tuple_repr (wpAny_call (codeAny_call_builtin_own (Code.quiet_builtin _ (by decide +kernel)) F.entry_tuple_repr (F.slot_tuple_repr.check _ _ _ _ _ _ _ _ hTy (F.args_tuple_repr_1 _) body)))
    rcases cs with rfl | ⟨k2, rfl, nk⟩
    · have h0 := hm a o rfl r1
      simp only [kidsO, r4] at h0
      have h0 : its = [] := by simpa using h0
      exact go 0 (fun y hy => by rw [h0] at hy; cases hy) fun z => absurd h0 z
    · exact go k2 (fun y hy => hm a o rfl r1 y (by simpa [kidsO, r4] using hy)) fun _ => nk
  | lst xs =>
    simp only [Is] at q
    obtain ⟨a, vs, rfl, q, rl⟩ := q
    cases r
    simp only [D.rpN] at e
    obtain ⟨ts, e1, rfl⟩ := Option.map_eq_some_iff.mp e
    obtain ⟨o, its, n, r1, r2, r3, r4, r5⟩ := stat_lst hK I q
    have hs := Is.shL hK h I rl r5 e1 fun t ht => Nat.le_trans (listText_mem_le ht) hz0
    have hTy : s.TypeIs (.ref a) "list" := ⟨o, r2, r3⟩
    simp only [D.htN] at hd
    have A1 := ao (htNL xs + 1) hd
    have hn : HtLe (RS G H) (htNL xs + 1) (.ref a) := ht_seq hK I r2 (by simp [kidsO, r4]) hs.ht
    obtain ⟨m, lm, hm, cs⟩ := hn.least
    cases its with
    | nil =>
      have e0 := hs.rj
      cases e0
      rw [listText_nil] at fin
      exact call_repr_slot hu1 hTy F.slot_list_repr.toG (call_list_repr_empty hTy r2 r4 ⟨_, _, rfl, fin _ (jo.keep j0 fun _ _ e => e) _⟩)
    | cons y its =>
      rcases cs with rfl | ⟨k2, rfl, nk⟩
      · have h0 := hm a o rfl r1
        simp [kidsO, r4] at h0
      · have hk2 : ∀ z ∈ y :: its, HtLe (RS G H) k2 z := fun z hz => hm a o rfl r1 z (by simpa [kidsO, r4] using hz)
        have body := list_reprAtJ (prog := X.prog) (w := X.w) (fr := X.A.frames) (j := j) (d := htNL xs) (A := X.A.in1) (Z := callEnd (fun v s' => ∃ x t, v = .str x t ∧ Q v s') X.xe) (ps := []) (base := 0) jo r1 r4 (by simpa using hs.rj.length_eq) (fun i z e => ⟨hk2 z (List.mem_of_getElem? (by simpa using e)), hs.rj.item i z (by simpa using e)⟩) g0 (ab _) nk (Clear.nil a) A1 j0 (fun s' u j1 => ⟨_, _, rfl, fin s' j1 _⟩) (by omega)
        exact call_repr_slot hu1 hTy F.slot_list_repr.toG (wpAny_call (codeAny_call_builtin F.slot_list_repr.plain F.entry_list_repr (F.slot_list_repr.check _ _ _ _ _ _ _ _ hTy (F.args_list_repr_1 _) body)))
  | dic kvs =>
    simp only [Is] at q
    obtain ⟨a, o, rfl, q⟩ := q
    cases r
    simp only [D.rpN] at e
    split at e
    · rename_i hk
      obtain ⟨ts, e1, rfl⟩ := Option.map_eq_some_iff.mp e
      rcases q with ⟨ks, q, rl⟩ | ⟨ks, q, rl⟩
      · obtain ⟨es, n, r1, r2, r3, r4, r5, r6, r7⟩ := stat_dic (G := G) I q
        obtain ⟨k1, v1, hs1, hs2, e2, e3⟩ := Is.shK hK h I rl hk r6 r7 e1 fun t ht => Nat.le_trans (dictText_mem_le ht) hz0
        have hTy : s.TypeIs (.ref a) "dict" := ⟨o, r2, r3⟩
        simp only [D.htN] at hd
        have A1 := ao (htNK kvs + 1) hd
        have hn : HtLe (RS G H) (htNK kvs + 1) (.ref a) := ht_seq hK I r2 (us := es.toList.map (·.key) ++ es.toList.map (·.val)) (by simp [kidsO, r4]) fun x hx => by
          rcases List.mem_append.mp hx with hx | hx
          · exact (hs1.ht x hx).mono (Nat.zero_le _)
          · exact hs2.ht x hx
        obtain ⟨m, lm, hm, cs⟩ := hn.least
        have hE : RJe X.prog X.w (JI X pins σ H) (RS G H) X.A.frames j (htNK kvs) es.toList ts := by
          rw [e2, ← zip_txt _ _ e3]
          exact RJe.of_two es.toList k1 v1 (hs1.rj.more_le (Nat.zero_le _)) hs2.rj
        have go : ∀ k2, (∀ e ∈ es.toList, HtLe (RS G H) k2 e.key ∧ HtLe (RS G H) k2 e.val) → (es.toList ≠ [] → ¬ HtLe (RS G H) k2 (.ref a)) → wpAny (model X.prog X.w) X.A (call (.builtin "repr") [.ref a]) Q X.xe s := fun k2 hk2 hne => by
          have body := dict_reprAtJ (prog := X.prog) (w := X.w) (fr := X.A.frames) (j := j) (d := htNK kvs) (A := X.A.in1) (Z := callEnd (fun v s' => ∃ x t, v = .str x t ∧ Q v s') X.xe) (ps := []) (base := 0) (id := "dict.__repr__") (rest := []) jo r1 r3 r4 r5 hE hk2 (isGuard_dict_repr _)
            (A1.under under_dict0.1 under_dict0.2 (units_under_dict_repr _ _)) g0 (ab _) hne (Clear.nil a) j0 (fun s' u j1 => ⟨_, _, rfl, fin s' j1 _⟩) (by omega)
          exact call_repr_slot hu1 hTy F.slot_dict_repr (wpAny_call (codeAny_call_builtin_own (Code.quiet_builtin _ (by decide +kernel)) F.entry_dict_repr (F.slot_dict_repr.check _ _ _ _ _ _ _ _ hTy (F.args_dict_repr_1 _) body)))
        rcases cs with rfl | ⟨k2, rfl, nk⟩
        · have h0 := hm a o rfl r1
          simp only [kidsO, r4] at h0
          have h1 : es.toList = [] := by
            have := List.append_eq_nil_iff.mp h0
            simpa using this.1
          exact go 0 (fun y hy => by rw [h1] at hy; cases hy) fun z => absurd h1 z
        · exact go k2 (fun y hy => ⟨hm a o rfl r1 _ (by simp only [kidsO, r4]; exact List.mem_append_left _ (List.mem_map_of_mem hy)), hm a o rfl r1 _ (by simp only [kidsO, r4]; exact List.mem_append_right _ (List.mem_map_of_mem hy))⟩) fun _ => nk
      · exact absurd (isT_keys rl.2 hk).1 rl.1
    · cases e
  | _ => cases hb
omit hK h I in
theorem ok_reprN [PgT G] (c0 : XI X G W k) (sm : SmOk G.K) (h0 : KnS X.prog X.w G X.mg X.base j ci "__repr__" pl sem f fd) (h : KnS X.prog X.w G.dim X.mg X.base j ci "__repr__" pl sem f fd) (hj : j + 6 ≤ k) : CallR X (.builtin "repr") (rBU G (fReprN ci sem)) := by
  intro pins s σ H xs us Q I r ⟨g, M, ds, rr, R, q, e, kk⟩
  unfold fReprN at e
  split at e
  · rename_i r0 e0
    cases e
    exact ok_reprO c0 sm h0 (by omega) pins s σ H xs us Q I r ⟨g, M, _, _, R, q, e0, kk⟩
  · unfold fReprH at e
    split at e
    · rename_i d
      split at e
      · rename_i hb
        obtain ⟨t, e1, e2⟩ := Option.bind_eq_some_iff.mp e
        split at e2
        · rename_i hc
          cases e2
          obtain ⟨x, rfl, q1⟩ := isl1 q
          obtain ⟨u, rfl, rx⟩ := r.one
          exact rt_call c0 h hj I q1 rx hb e1 hc.1 hc.2 fun s' H' tk I' w => ⟨.str _, H', I', ⟨tk, rfl⟩, kk _ H' w ⟨(by simp), by rw [sizeLine_eq]; have := hc.1; simp only [Str.length] at this; simp; omega⟩⟩
        · cases e2
      · cases e
    · cases e
end
end PI
namespace PI
theorem FdOk.dim {G : Ga} {ci i : Nat} {f : PySem.Str} (h : FdOk G ci i f) : FdOk G.dim ci i f := ⟨h.cl, h.no, h.nm, h.inj⟩
end PI
set_option maxHeartbeats 1000000
/-! PISndFS: f-strings. -/
namespace PI
open PySem PySem.Spec PyProof.Rows L2
section
variable {X : Cx} {G : Ga} {W : WX} {pos : Pos} {e : Expr} {m : EM PI.D}
/-- a part of an f-string -/
abbrev tTx (G : Ga) (W : WX) (m : EM (List Nat)) : TE := tV G W (fun _ _ _ _ v cs => v = .str ⟨cs.toArray⟩ ∧ cs.length ≤ sizeLine) m
theorem str_back (y : Str) : (⟨(y.cps.toList).toArray⟩ : Str) = y := by cases y; simp
theorem textOf_int (i : Int) : (⟨(textOf (.int i)).toArray⟩ : Str) = toString i := str_back _
theorem textOf_str (t : List Nat) : (⟨(textOf (.str t)).toArray⟩ : Str) = reprText ⟨t.toArray⟩ := str_back _
theorem int_log {i : Int} (h : i.natAbs < 10 ^ 44) : i.natAbs.log2 < 1920 := by
  by_cases h0 : i.natAbs = 0
  · rw [h0]; decide
  · refine (Nat.log2_lt h0).mpr (Nat.lt_of_lt_of_le h ?_)
    exact Nat.le_trans (show 10 ^ 44 ≤ 2 ^ 200 by decide) (Nat.pow_le_pow_right (by decide) (by decide))
theorem okFmt (ha : PUI X G W e m) : PE X (.FormattedValue e (-1) none pos) (tTx G W (eFmt fmtD m)) := by
  refine PE.imp (pe_fmt ha) fun σ H Q ⟨g, e0, M, R, h⟩ => ⟨g, e0, M, R, (PostR.bind h).mono fun d e1 M1 _ k x H1 g1 N1 R1 r => ?_⟩
  obtain ⟨cs, er, k3⟩ := lift_ok (k.from N1)
  unfold fmtD at er
  split at er
  · split at er
    · rename_i hl
      cases er
      simp only [Is] at r
      exact .inl ⟨_, r.1, by rw [sizeLine_eq]; show (List.toArray _).size ≤ _; simp; omega, k3 _ H1 g1 N1 R1 ⟨rfl, by rw [sizeLine_eq]; omega⟩⟩
    · cases er
  · split at er
    · rename_i hl
      cases er
      simp only [Is] at r
      refine .inr ⟨_, r, int_log hl.1, ?_⟩
      rw [← textOf_int]
      exact k3 _ H1 g1 N1 R1 ⟨rfl, by rw [sizeLine_eq]; omega⟩
    · cases er
  · cases er
theorem okFmtR (ha : PUI X G W e m) : PE X (.FormattedValue e 114 none pos) (tTx G W (eFmt fmtRD m)) := by
  refine PE.imp (pe_fmtR ha) fun σ H Q ⟨g, e0, M, R, h⟩ => ⟨g, e0, M, R, (PostR.bind h).mono fun d e1 M1 _ k x H1 g1 N1 R1 r => ?_⟩
  obtain ⟨cs, er, k3⟩ := lift_ok (k.from N1)
  unfold fmtRD at er
  split at er
  · split at er
    · rename_i t hl
      cases er
      simp only [Is] at r
      refine .inl ⟨_, r.1, ?_, ?_⟩
      · rw [← textOf_str, sizeLine_eq]; show (List.toArray _).size ≤ _; simp; omega
      · rw [← textOf_str]
        exact k3 _ H1 g1 N1 R1 ⟨rfl, by rw [sizeLine_eq]; omega⟩
    · cases er
  · split at er
    · rename_i hl
      cases er
      simp only [Is] at r
      refine .inr ⟨_, r, int_log hl.1, ?_⟩
      rw [← textOf_int]
      exact k3 _ H1 g1 N1 R1 ⟨rfl, by rw [sizeLine_eq]; omega⟩
    · cases er
  · cases er
/-- the text between -/
theorem okTxt {x : Str} {j} {cs : List Nat} (h : x = ⟨cs.toArray⟩ := by decide +kernel) (hl : Nat.ble cs.length 1000 = true := by rfl) : PE X (.Constant (.str x) j pos) (tTx G W (EM.pure cs)) := by
  subst h
  have hl := Nat.le_of_ble_eq_true hl
  exact PE.imp pe_str fun σ H Q ⟨g, e0, M, R, h⟩ => h _ H g (R.toHRel.grows (Grow.refl H)) R ⟨rfl, by rw [sizeLine_eq]; omega⟩
theorem tJs_of {σ : St} : ∀ (ms : List (EM (List Nat))) (acc : List Nat) (H : Hp) (Q : VK), acc.length ≤ sizeLine → tE G W (eJoinS ms acc) σ H Q → tJs (ms.map (tTx G W)) ⟨acc.toArray⟩ σ H fun out H1 => Q (.str out) H1
  | [], acc, H, Q, hl, ⟨g, e0, M, R, h⟩ => h (.str ⟨acc.toArray⟩) H g (R.toHRel.grows (Grow.refl H)) R ⟨rfl, hl⟩
  | m :: ms, acc, H, Q, _, ⟨g, e0, M, R, h⟩ => by
    refine ⟨g, e0, M, R, (PostR.bind h).mono fun t e1 M1 _ k x H1 g1 N1 R1 r => ?_⟩
    obtain ⟨rfl, hl⟩ := r
    have k := k.from N1
    by_cases hz : (acc ++ t).length ≤ 1000000
    · rw [if_pos hz] at k
      have ea : (⟨acc.toArray⟩ : Str) ++ ⟨t.toArray⟩ = ⟨(acc ++ t).toArray⟩ := by
        show (⟨acc.toArray ++ t.toArray⟩ : Str) = _
        simp
      refine ⟨_, rfl, ?_, ?_⟩
      · rw [ea, sizeLine_eq]; show (List.toArray _).size ≤ _; simp at hz ⊢; omega
      · rw [ea]
        exact tJs_of ms (acc ++ t) H1 Q (by rw [sizeLine_eq]; omega) ⟨g1, e1, M1, R1, k.mono fun _ _ _ _ kk v H' g' N' => kk v H' g' (N1.trans N')⟩
    · rw [if_neg hz] at k
      exact False.elim k
theorem okJoinS {v1 v2 : Expr} {rest : List Expr} {ms : List (EM (List Nat))} (h : PJ X (v1 :: v2 :: rest) (ms.map (tTx G W))) : PEI X G W (.JoinedStr (v1 :: v2 :: rest) pos) (eJoinS ms []) :=
  PE.imp (pe_joined h) fun σ H Q hh => tJs_of ms [] H Q (Nat.zero_le _) hh
end
end PI
set_option maxHeartbeats 1000000
/-! PISndY: int(text). -/
namespace PI
open PySem PySem.Spec PyProof.Rows L2
section
variable {X : Cx} {G : Ga} {W : WX}
theorem ok_intT : CallR X (.type "int") (rB G fIntT) := by
  intro pins s σ H xs us Q I r ⟨g, M, ds, rr, R, w, e, q⟩
  unfold fIntT at e
  split at e
  · rename_i cs
    split at e
    · rename_i hc
      cases e
      obtain ⟨v, rfl, h⟩ := vwl1 w
      obtain ⟨rfl, hl⟩ := vw_str h
      have hd : PySem.NumText.AllDigits (⟨cs.toArray⟩ : Str).cps.toList := hc.2.1
      have hn := PySem.intText_digits (x := ⟨cs.toArray⟩) hd (by simpa using hc.1) (by have := hc.2.2; show cs.toArray.size ≤ 4300; simp; omega)
      match us, r with
      | [_], .cons ⟨t, rfl⟩ .nil => exact PySem.W.KIN.call_text hn (by have := hc.2.2; show cs.toArray.size ≤ 640; simpa using this) ⟨.int _, H, I.tok _, ⟨_, rfl⟩, q _ _ (Grow.refl _) rfl⟩
    · cases e
  · exact ok_intB pins s σ H xs us Q I r ⟨g, M, _, rr, R, w, e, q⟩
end
end PI
set_option maxHeartbeats 0
namespace L73
open PySem PySem.Spec PyProof.Rows L2 PI
def top (i : Nat) : Stmt := PySem.Challenge.pw_dimcellar_k73_lists_refused.main.body.getD i (.Pass ⟨0, 0, 0, 0⟩)
/-! ### NoText___init__ -/
abbrev st_NoText___init__ : Stmt := clsSt (top 20) 0
theorem sc_NoText___init__ : FnScope ["self", "line"] ["self", "line"] (defScope st_NoText___init__) := ⟨rfl, rfl, rfl, by decide +kernel, rfl, by decide +kernel, by decide +kernel⟩
theorem o_NoText___init__ {P : Program} {w : World} {G : Ga} {mg : Str → Option Value} {base : Heap} {f C : Addr} {fd : FuncData} (F : FunD G.K "__init__" "NoText.__init__" (defArgs st_NoText___init__) (defBody st_NoText___init__) (defScope st_NoText___init__) [(.int 0)] [] f fd) :
    FnOk P w G.K mg base CX0 1 f fd ["self", "line"] (spX G.K C ["line"]) :=
  FunD.ok (k := 0) F sc_NoText___init__ (spX_len rfl) fun cdv A outer s H vs Q E hr hsp => ⟨_, (pss_one (ps_ost (pv 0) (pv 1))), xread1 hsp⟩
/-! ### is_whole -/
abbrev st_is_whole : Stmt := top 31
theorem sc_is_whole : FnScope ["thing"] ["thing"] (defScope st_is_whole) := ⟨rfl, rfl, rfl, by decide +kernel, rfl, by decide +kernel, by decide +kernel⟩
theorem o_is_whole {P : Program} {w : World} {G : Ga} {mg : Str → Option Value} {base : Heap} {f : Addr} {fd : FuncData} (F : FunD G.K "is_whole" "is_whole" (defArgs st_is_whole) (defBody st_is_whole) (defScope st_is_whole) [] [] f fd)
    (n_bool : mg "bool" = none) (n_int : mg "int" = none) (n_isinstance : mg "isinstance" = none) :
    FnI P w G mg base 1 f fd ["thing"] m_is_whole :=
  FnI.of F sc_is_whole fun cdv A outer s H E c => (okOne (okRet (okAndV (okB (ok_isi c.toXJ) n_isinstance (by decide +kernel) (okAPCons (okPLoc 0) (okAPCons (okPOf (okTy n_int (by decide +kernel))) okAPNil))) (okOneV (okNotV (okB (ok_isi c.toXJ) n_isinstance (by decide +kernel) (okAPCons (okPLoc 0) (okAPCons (okPOf (okTy n_bool (by decide +kernel))) okAPNil))))))))
/-! ### is_within -/
abbrev st_is_within : Stmt := top 32
theorem sc_is_within : FnScope ["thing", "least", "most"] ["thing", "least", "most"] (defScope st_is_within) := ⟨rfl, rfl, rfl, by decide +kernel, rfl, by decide +kernel, by decide +kernel⟩
theorem o_is_within {P : Program} {w : World} {G : Ga} {mg : Str → Option Value} {base : Heap} {f : Addr} {fd : FuncData} (F : FunD G.K "is_within" "is_within" (defArgs st_is_within) (defBody st_is_within) (defScope st_is_within) [] [] f fd)
    {f_is_whole : Addr} {d_is_whole : FuncData} (k_is_whole : Kn P w G mg base 1 "is_whole" ["thing"] m_is_whole f_is_whole d_is_whole) (b_is_whole_1 : Bd G d_is_whole ["thing"] []) :
    FnI P w G mg base 2 f fd ["thing", "least", "most"] m_is_within :=
  FnI.of F sc_is_within fun cdv A outer s H E c => (okOne (okRet (okAndV (okCallB c k_is_whole b_is_whole_1 (okACons (okUse (okLoc 0)) okANil) (lenCons lenNil)) (okOneV (okChainV (ok_le c.toXJ) (ok_le c.toXJ) (okPLoc 1) (okPLoc 0) (okPLoc 2))))))
/-! ### is_word -/
abbrev st_is_word : Stmt := top 33
theorem sc_is_word : FnScope ["thing", "least", "sign"] ["thing", "least"] (defScope st_is_word) := ⟨rfl, rfl, rfl, by decide +kernel, rfl, by decide +kernel, by decide +kernel⟩
theorem o_is_word {P : Program} {w : World} {G : Ga} {mg : Str → Option Value} {base : Heap} {f : Addr} {fd : FuncData} (F : FunD G.K "is_word" "is_word" (defArgs st_is_word) (defBody st_is_word) (defScope st_is_word) [(.int 1)] [] f fd)
    {v_LETTERS : V} {u_LETTERS : Value} (c_LETTERS : mg "LETTERS" = some u_LETTERS ∧ RelV v_LETTERS u_LETTERS ∧ ∀ g H, Is G g H (.str [97, 98, 99, 100, 101, 102, 103, 104, 105, 106, 107, 108, 109, 110, 111, 112, 113, 114, 115, 116, 117, 118, 119, 120, 121, 122]) v_LETTERS) {v_MOST_SIGNS_bottles : V} {u_MOST_SIGNS_bottles : Value} (c_MOST_SIGNS_bottles : mg "MOST_SIGNS_bottles" = some u_MOST_SIGNS_bottles ∧ RelV v_MOST_SIGNS_bottles u_MOST_SIGNS_bottles ∧ ∀ g H, Is G g H (.int 8) v_MOST_SIGNS_bottles) (n_all : mg "all" = none) (n_isinstance : mg "isinstance" = none) (n_len : mg "len" = none) (n_str : mg "str" = none) :
    FnI P w G mg base 1 f fd ["thing", "least"] m_is_word :=
  FnI.of F sc_is_word fun cdv A outer s H E c => (okSeq (okIf (okW (okOr (okNot (okTru c.K (okPOf (okB (ok_isi c.toXJ) n_isinstance (by decide +kernel) (okAPCons (okPLoc 0) (okAPCons (okPOf (okTy n_str (by decide +kernel))) okAPNil)))))) (okOr1 (okNot (okChain (ok_le c.toXJ) (ok_le c.toXJ) (okPLoc 1) (okPOf (okB (ok_len c.toXJ) n_len (by decide +kernel) (okAPCons (okPLoc 0) okAPNil))) (okPOf (okGlo c_MOST_SIGNS_bottles.1 c_MOST_SIGNS_bottles.2.1 c_MOST_SIGNS_bottles.2.2))))))) (okOne (okRet okBl)) okNil)
    (okOne (okRet (okB (ok_all c) n_all (by decide +kernel) (okAPCons (okPOf (okLcE (own := [("sign", 2)]) c (okISeq c.toXJ (okLoc 0)) (⟨rfl, by decide +kernel, by decide +kernel, by decide +kernel, by decide +kernel⟩ : BlkOk ["thing", "least", "sign"] (defScope st_is_word) _ _) (fun s2 H2 C2 cl2 fp2 => (okGNm (c.blk s2 H2 _ _ fp2).toXJ 2)) (by decide) (fun s2 H2 C2 cl2 fp2 => okYes) (fun s2 H2 C2 cl2 fp2 => (okUse (okCm (ok_in (c.blk s2 H2 _ _ fp2).toXJ) (okPLoc 2) (okPOf (okGlo c_LETTERS.1 c_LETTERS.2.1 c_LETTERS.2.2))))))) okAPNil)))))
/-! ### is_size -/
abbrev st_is_size : Stmt := top 34
theorem sc_is_size : FnScope ["thing"] ["thing"] (defScope st_is_size) := ⟨rfl, rfl, rfl, by decide +kernel, rfl, by decide +kernel, by decide +kernel⟩
theorem o_is_size {P : Program} {w : World} {G : Ga} {mg : Str → Option Value} {base : Heap} {f : Addr} {fd : FuncData} (F : FunD G.K "is_size" "is_size" (defArgs st_is_size) (defBody st_is_size) (defScope st_is_size) [] [] f fd)
    {f_is_whole : Addr} {d_is_whole : FuncData} (k_is_whole : Kn P w G mg base 1 "is_whole" ["thing"] m_is_whole f_is_whole d_is_whole) (b_is_whole_1 : Bd G d_is_whole ["thing"] []) (t_SIZES_bottles : mg "SIZES_bottles" = some (.ref (He.ga G.K "SIZES_bottles")) ∧ ∀ g H, Is G g H (.tup [(.int 37), (.int 75), (.int 150)]) (.ref (He.ga G.K "SIZES_bottles"))) :
    FnI P w G mg base 2 f fd ["thing"] m_is_size :=
  FnI.of F sc_is_size fun cdv A outer s H E c => (okOne (okRet (okAndV (okCallB c k_is_whole b_is_whole_1 (okACons (okUse (okLoc 0)) okANil) (lenCons lenNil)) (okOneV (okCm (ok_in c.toXJ) (okPLoc 0) (okPOf (okGlo (v := .ref (He.ga G.K "SIZES_bottles")) t_SIZES_bottles.1 rfl t_SIZES_bottles.2)))))))
/-! ### is_year -/
abbrev st_is_year : Stmt := top 35
theorem sc_is_year : FnScope ["thing"] ["thing"] (defScope st_is_year) := ⟨rfl, rfl, rfl, by decide +kernel, rfl, by decide +kernel, by decide +kernel⟩
theorem o_is_year {P : Program} {w : World} {G : Ga} {mg : Str → Option Value} {base : Heap} {f : Addr} {fd : FuncData} (F : FunD G.K "is_year" "is_year" (defArgs st_is_year) (defBody st_is_year) (defScope st_is_year) [] [] f fd)
    {f_is_within : Addr} {d_is_within : FuncData} (k_is_within : Kn P w G mg base 2 "is_within" ["thing", "least", "most"] m_is_within f_is_within d_is_within) (b_is_within_3 : Bd G d_is_within ["thing", "least", "most"] []) {v_FIRST_YEAR : V} {u_FIRST_YEAR : Value} (c_FIRST_YEAR : mg "FIRST_YEAR" = some u_FIRST_YEAR ∧ RelV v_FIRST_YEAR u_FIRST_YEAR ∧ ∀ g H, Is G g H (.int 1900) v_FIRST_YEAR) {v_LAST_YEAR : V} {u_LAST_YEAR : Value} (c_LAST_YEAR : mg "LAST_YEAR" = some u_LAST_YEAR ∧ RelV v_LAST_YEAR u_LAST_YEAR ∧ ∀ g H, Is G g H (.int 2100) v_LAST_YEAR) :
    FnI P w G mg base 3 f fd ["thing"] m_is_year :=
  FnI.of F sc_is_year fun cdv A outer s H E c => (okOne (okRet (okCallB c k_is_within b_is_within_3 (okACons (okUse (okLoc 0)) (okACons (okUse (okGlo c_FIRST_YEAR.1 c_FIRST_YEAR.2.1 c_FIRST_YEAR.2.2)) (okACons (okUse (okGlo c_LAST_YEAR.1 c_LAST_YEAR.2.1 c_LAST_YEAR.2.2)) okANil))) (lenCons (lenCons (lenCons lenNil))))))
/-! ### Bottle___init__ -/
abbrev st_Bottle___init__ : Stmt := clsSt (top 36) 0
theorem sc_Bottle___init__ : FnScope ["self", "maker", "year", "size"] ["self", "maker", "year", "size"] (defScope st_Bottle___init__) := ⟨rfl, rfl, rfl, by decide +kernel, rfl, by decide +kernel, by decide +kernel⟩
theorem o_Bottle___init__ {P : Program} {w : World} {G : Ga} {mg : Str → Option Value} {base : Heap} {f : Addr} {fd : FuncData} (F : FunD G.K "__init__" "Bottle.__init__" (defArgs st_Bottle___init__) (defBody st_Bottle___init__) (defScope st_Bottle___init__) [(.int 75)] [] f fd)
    {f_is_word : Addr} {d_is_word : FuncData} (k_is_word : Kn P w G mg base 3 "is_word" ["thing", "least"] m_is_word f_is_word d_is_word) {f_is_year : Addr} {d_is_year : FuncData} (k_is_year : Kn P w G mg base 3 "is_year" ["thing"] m_is_year f_is_year d_is_year) {f_is_size : Addr} {d_is_size : FuncData} (k_is_size : Kn P w G mg base 3 "is_size" ["thing"] m_is_size f_is_size d_is_size) (b_is_size_1 : Bd G d_is_size ["thing"] []) (b_is_word_1 : Bd G d_is_word ["thing", "least"] [(.int 1)]) (b_is_year_1 : Bd G d_is_year ["thing"] []) (fd_maker : FdOk G 5 8 "maker") (fd_size : FdOk G 5 10 "size") (fd_year : FdOk G 5 9 "year") (gc_NoMaker : mg "NoMaker" = some (.ref (G.ca 3))) (gc_NoSize : mg "NoSize" = some (.ref (G.ca 1))) (gc_NoYear : mg "NoYear" = some (.ref (G.ca 4))) (er_NoMaker : ExcR G.K (G.ca 3)) (er_NoSize : ExcR G.K (G.ca 1)) (er_NoYear : ExcR G.K (G.ca 4)) :
    FnI P w G mg base 4 f fd ["self", "maker", "year", "size"] m_Bottle___init__ :=
  FnI.of F sc_Bottle___init__ fun cdv A outer s H E c => (okSeq (okIf (okNot (okTru c.K (okPOf (okCallB c k_is_word b_is_word_1 (okACons (okUse (okLoc 1)) okANil) (lenCons lenNil))))) (okOne (okRaise c 3 er_NoMaker gc_NoMaker)) okNil)
    (okSeq (okIf (okNot (okTru c.K (okPOf (okCallB c k_is_year b_is_year_1 (okACons (okUse (okLoc 2)) okANil) (lenCons lenNil))))) (okOne (okRaise c 4 er_NoYear gc_NoYear)) okNil)
    (okSeq (okIf (okNot (okTru c.K (okPOf (okCallB c k_is_size b_is_size_1 (okACons (okUse (okLoc 3)) okANil) (lenCons lenNil))))) (okOne (okRaise c 1 er_NoSize gc_NoSize)) okNil)
    (okSeq (okFldP c.toXJ fd_maker (okUse (okLoc 1)) (okPLoc 0))
    (okSeq (okFldP c.toXJ fd_year (okUse (okLoc 2)) (okPLoc 0))
    (okOne (okFldP c.toXJ fd_size (okUse (okLoc 3)) (okPLoc 0))))))))
/-! ### Bottle___str__ -/
abbrev st_Bottle___str__ : Stmt := clsSt (top 36) 2
theorem sc_Bottle___str__ : FnScope ["self", "words"] ["self"] (defScope st_Bottle___str__) := ⟨rfl, rfl, rfl, by decide +kernel, rfl, by decide +kernel, by decide +kernel⟩
theorem o_Bottle___str__ {P : Program} {w : World} {G : Ga} [PgT G] {mg : Str → Option Value} {base : Heap} {f : Addr} {fd : FuncData} (F : FunD G.K "__str__" "Bottle.__str__" (defArgs st_Bottle___str__) (defBody st_Bottle___str__) (defScope st_Bottle___str__) [] [] f fd)
    {v_PLAIN : V} {u_PLAIN : Value} (c_PLAIN : mg "PLAIN" = some u_PLAIN ∧ RelV v_PLAIN u_PLAIN ∧ ∀ g H, Is G g H (.int 75) v_PLAIN) (hSm : SmOk G.K) (fd_maker : FdOk G 5 8 "maker") (fd_size : FdOk G 5 10 "size") (fd_year : FdOk G 5 9 "year") (n_str : mg "str" = none) :
    FnI P w G mg base 1 f fd ["self"] m_Bottle___str__ :=
  FnI.of F sc_Bottle___str__ fun cdv A outer s H E c => (okSeq (okSet c.toXJ 1 (okLst (okACons (okUse (okFld c.toXJ fd_maker (okPLoc 0))) (okACons (okUse (okBT (ok_strA c.toXJ hSm) n_str (by decide +kernel) (okAPCons (okPOf (okFld c.toXJ fd_year (okPLoc 0))) okAPNil))) okANil))))
    (okSeq (okIf (okCmT (ok_ne c.toXJ) (okPOf (okFld c.toXJ fd_size (okPLoc 0))) (okPOf (okGlo c_PLAIN.1 c_PLAIN.2.1 c_PLAIN.2.2))) (okOne (okExp (okMut (T := .list) c.toXJ PySem.F.plainAttrs_list PySem.F.slot_list_append PySem.F.type_list_append ok_append (okPLoc 1) (okACons (okUse (okBT (ok_strA c.toXJ hSm) n_str (by decide +kernel) (okAPCons (okPOf (okFld c.toXJ fd_size (okPLoc 0))) okAPNil))) okANil)))) okNil)
    (okOne (okRet (okM (T := .str) c.toXJ PySem.F.plainAttrs_str PySem.F.slot_str_join PySem.F.type_str_join (ok_join c.toXJ) (okPOf okStr) (okAPCons (okPLoc 1) okAPNil))))))
/-! ### Bottle___repr__ -/
abbrev st_Bottle___repr__ : Stmt := clsSt (top 36) 3
theorem sc_Bottle___repr__ : FnScope ["self"] ["self"] (defScope st_Bottle___repr__) := ⟨rfl, rfl, rfl, by decide +kernel, rfl, by decide +kernel, by decide +kernel⟩
theorem o_Bottle___repr__ {P : Program} {w : World} {G : Ga} {mg : Str → Option Value} {base : Heap} {f : Addr} {fd : FuncData} (F : FunD G.K "__repr__" "Bottle.__repr__" (defArgs st_Bottle___repr__) (defBody st_Bottle___repr__) (defScope st_Bottle___repr__) [] [] f fd)
    (fd_maker : FdOk G 5 8 "maker") (fd_size : FdOk G 5 10 "size") (fd_year : FdOk G 5 9 "year") :
    FnI P w G mg base 1 f fd ["self"] m_Bottle___repr__ :=
  FnI.of F sc_Bottle___repr__ fun cdv A outer s H E c => (okOne (okRet (okJoinS (ms := [_, _, _, _, _, _, _]) (.cons okTxt (.cons (okFmtR (okUse (okFld c.toXJ fd_maker (okPLoc 0)))) (.cons okTxt (.cons (okFmt (okUse (okFld c.toXJ fd_year (okPLoc 0)))) (.cons okTxt (.cons (okFmt (okUse (okFld c.toXJ fd_size (okPLoc 0)))) (.cons okTxt .nil))))))))))
/-! ### is_bottle -/
abbrev st_is_bottle : Stmt := top 37
theorem sc_is_bottle : FnScope ["thing"] ["thing"] (defScope st_is_bottle) := ⟨rfl, rfl, rfl, by decide +kernel, rfl, by decide +kernel, by decide +kernel⟩
theorem o_is_bottle {P : Program} {w : World} {G : Ga} {mg : Str → Option Value} {base : Heap} {f : Addr} {fd : FuncData} (F : FunD G.K "is_bottle" "is_bottle" (defArgs st_is_bottle) (defBody st_is_bottle) (defScope st_is_bottle) [] [] f fd)
    (hIu : IuOk G 5 6) (gc_Bottle : mg "Bottle" = some (.ref (G.ca 5))) (n_isinstance : mg "isinstance" = none) :
    FnI P w G mg base 1 f fd ["thing"] m_is_bottle :=
  FnI.of F sc_is_bottle fun cdv A outer s H E c => (okOne (okRet (okB (ok_isU c.toXJ hIu) n_isinstance (by decide +kernel) (okAPCons (okPLoc 0) (okAPCons (okPOf (okGlo (v := .ref (G.ca 5)) gc_Bottle rfl (fun _ _ => rfl))) okAPNil)))))
/-! ### are_bottles -/
abbrev st_are_bottles : Stmt := top 39
theorem sc_are_bottles : FnScope ["thing", "one"] ["thing"] (defScope st_are_bottles) := ⟨rfl, rfl, rfl, by decide +kernel, rfl, by decide +kernel, by decide +kernel⟩
theorem o_are_bottles {P : Program} {w : World} {G : Ga} {mg : Str → Option Value} {base : Heap} {f : Addr} {fd : FuncData} (F : FunD G.K "are_bottles" "are_bottles" (defArgs st_are_bottles) (defBody st_are_bottles) (defScope st_are_bottles) [] [] f fd)
    {f_is_bottle : Addr} {d_is_bottle : FuncData} (k_is_bottle : Kn P w G mg base 1 "is_bottle" ["thing"] m_is_bottle f_is_bottle d_is_bottle) (b_is_bottle_1 : Bd G d_is_bottle ["thing"] []) (hIu : IuOk G 5 6) (n_all : mg "all" = none) (n_isinstance : mg "isinstance" = none) (n_list : mg "list" = none) :
    FnI P w G mg base 2 f fd ["thing"] m_are_bottles :=
  FnI.of F sc_are_bottles fun cdv A outer s H E c => (okOne (okRet (okAndV (okB (ok_isU c.toXJ hIu) n_isinstance (by decide +kernel) (okAPCons (okPLoc 0) (okAPCons (okPOf (okTy n_list (by decide +kernel))) okAPNil))) (okOneV (okB (ok_all c) n_all (by decide +kernel) (okAPCons (okPOf (okLcE (own := [("one", 1)]) c (okISeq c.toXJ (okLoc 0)) (⟨rfl, by decide +kernel, by decide +kernel, by decide +kernel, by decide +kernel⟩ : BlkOk ["thing", "one"] (defScope st_are_bottles) _ _) (fun s2 H2 C2 cl2 fp2 => (okGNm (c.blk s2 H2 _ _ fp2).toXJ 1)) (by decide) (fun s2 H2 C2 cl2 fp2 => okYes) (fun s2 H2 C2 cl2 fp2 => (okUse (okCallB (c.blk s2 H2 _ _ fp2) k_is_bottle b_is_bottle_1 (okACons (okUse (okLoc 1)) okANil) (lenCons lenNil)))))) okAPNil))))))
/-! ### written -/
abbrev st_written : Stmt := top 44
theorem sc_written : FnScope ["bottles", "one"] ["bottles"] (defScope st_written) := ⟨rfl, rfl, rfl, by decide +kernel, rfl, by decide +kernel, by decide +kernel⟩
theorem o_written {P : Program} {w : World} {G : Ga} [PgT G] {mg : Str → Option Value} {base : Heap} {f : Addr} {fd : FuncData} (F : FunD G.K "written" "written" (defArgs st_written) (defBody st_written) (defScope st_written) [] [] f fd)
    {f_are_bottles : Addr} {d_are_bottles : FuncData} (k_are_bottles : Kn P w G mg base 3 "are_bottles" ["thing"] m_are_bottles f_are_bottles d_are_bottles) {f_Bottle___str__ : Addr} {d_Bottle___str__ : FuncData} (ks_Bottle___str__ : KnS P w G mg base 1 5 "__str__" ["self"] m_Bottle___str__ f_Bottle___str__ d_Bottle___str__) (b_are_bottles_1 : Bd G d_are_bottles ["thing"] []) (hSm : SmOk G.K) (gc_NoBottles : mg "NoBottles" = some (.ref (G.ca 0))) (er_NoBottles : ExcR G.K (G.ca 0)) (n_str : mg "str" = none) :
    FnI P w G mg base 4 f fd ["bottles"] m_written :=
  FnI.of F sc_written fun cdv A outer s H E c => (okSeq (okIf (okNot (okTru c.K (okPOf (okCallB c k_are_bottles b_are_bottles_1 (okACons (okUse (okLoc 0)) okANil) (lenCons lenNil))))) (okOne (okRaise c 0 er_NoBottles gc_NoBottles)) okNil)
    (okOne (okRet (okM (T := .str) c.toXJ PySem.F.plainAttrs_str PySem.F.slot_str_join PySem.F.type_str_join (ok_join c.toXJ) (okPOf okStr) (okAPCons (okPOf (okLcE (own := [("one", 1)]) c (okISeq c.toXJ (okLoc 0)) (⟨rfl, by decide +kernel, by decide +kernel, by decide +kernel, by decide +kernel⟩ : BlkOk ["bottles", "one"] (defScope st_written) _ _) (fun s2 H2 C2 cl2 fp2 => (okGNm (c.blk s2 H2 _ _ fp2).toXJ 1)) (by decide) (fun s2 H2 C2 cl2 fp2 => okYes) (fun s2 H2 C2 cl2 fp2 => (okUse (okBTU (ok_strO (c.blk s2 H2 _ _ fp2) hSm ks_Bottle___str__ (by omega)) n_str (by decide +kernel) (okACons (okUse (okLoc 1)) okANil)))))) okAPNil)))))
/-! ### number_of -/
abbrev st_number_of : Stmt := top 45
theorem sc_number_of : FnScope ["word", "most", "sign"] ["word", "most"] (defScope st_number_of) := ⟨rfl, rfl, rfl, by decide +kernel, rfl, by decide +kernel, by decide +kernel⟩
theorem o_number_of {P : Program} {w : World} {G : Ga} {mg : Str → Option Value} {base : Heap} {f : Addr} {fd : FuncData} (F : FunD G.K "number_of" "number_of" (defArgs st_number_of) (defBody st_number_of) (defScope st_number_of) [] [] f fd)
    {v_FIGURES : V} {u_FIGURES : Value} (c_FIGURES : mg "FIGURES" = some u_FIGURES ∧ RelV v_FIGURES u_FIGURES ∧ ∀ g H, Is G g H (.str [48, 49, 50, 51, 52, 53, 54, 55, 56, 57]) v_FIGURES) (n_all : mg "all" = none) (n_int : mg "int" = none) (n_len : mg "len" = none) :
    FnI P w G mg base 1 f fd ["word", "most"] m_number_of :=
  FnI.of F sc_number_of fun cdv A outer s H E c => (okSeq (okIf (okW (okOr (okNot (okChain (ok_le c.toXJ) (ok_le c.toXJ) (okPOf okInt) (okPOf (okB (ok_len c.toXJ) n_len (by decide +kernel) (okAPCons (okPLoc 0) okAPNil))) (okPLoc 1))) (okOr1 (okNot (okTru c.K (okPOf (okB (ok_all c) n_all (by decide +kernel) (okAPCons (okPOf (okLcE (own := [("sign", 2)]) c (okISeq c.toXJ (okLoc 0)) (⟨rfl, by decide +kernel, by decide +kernel, by decide +kernel, by decide +kernel⟩ : BlkOk ["word", "most", "sign"] (defScope st_number_of) _ _) (fun s2 H2 C2 cl2 fp2 => (okGNm (c.blk s2 H2 _ _ fp2).toXJ 2)) (by decide) (fun s2 H2 C2 cl2 fp2 => okYes) (fun s2 H2 C2 cl2 fp2 => (okUse (okCm (ok_in (c.blk s2 H2 _ _ fp2).toXJ) (okPLoc 2) (okPOf (okGlo c_FIGURES.1 c_FIGURES.2.1 c_FIGURES.2.2))))))) okAPNil)))))))) (okOne (okRet okNon)) okNil)
    (okSeq (okIf (okW (okAnd (okCmT (ok_gt c.toXJ) (okPOf (okB (ok_len c.toXJ) n_len (by decide +kernel) (okAPCons (okPLoc 0) okAPNil))) (okPOf okInt)) (okAnd1 (okCmT (ok_eq c.toXJ) (okPOf (okIx (ok_ix c.toXJ) (okPLoc 0) (okPOf okInt))) (okPOf okStr))))) (okOne (okRet okNon)) okNil)
    (okOne (okRet (okBT ok_intT n_int (by decide +kernel) (okAPCons (okPLoc 0) okAPNil))))))
/-! ### bottle_of -/
abbrev st_bottle_of : Stmt := top 46
theorem sc_bottle_of : FnScope ["line", "size", "words", "numbers", "word"] ["line", "size"] (defScope st_bottle_of) := ⟨rfl, rfl, rfl, by decide +kernel, rfl, by decide +kernel, by decide +kernel⟩
theorem o_bottle_of {P : Program} {w : World} {G : Ga} {mg : Str → Option Value} {base : Heap} {f : Addr} {fd : FuncData} (F : FunD G.K "bottle_of" "bottle_of" (defArgs st_bottle_of) (defBody st_bottle_of) (defScope st_bottle_of) [] [] f fd)
    {f_number_of : Addr} {d_number_of : FuncData} (k_number_of : Kn P w G mg base 5 "number_of" ["word", "most"] m_number_of f_number_of d_number_of) {f_Bottle : Addr} {d_Bottle___init__ : FuncData} (k_Bottle : KnC P w G mg base 4 5 "Bottle" ["self", "maker", "year", "size"] m_Bottle___init__ f_Bottle d_Bottle___init__) (b_Bottle___init___4 : Bd G d_Bottle___init__ ["self", "maker", "year", "size"] []) (b_number_of_2 : Bd G d_number_of ["word", "most"] []) {v_MOST_SIGNS_lines : V} {u_MOST_SIGNS_lines : Value} (c_MOST_SIGNS_lines : mg "MOST_SIGNS_lines" = some u_MOST_SIGNS_lines ∧ RelV v_MOST_SIGNS_lines u_MOST_SIGNS_lines ∧ ∀ g H, Is G g H (.int 2000) v_MOST_SIGNS_lines) (gc_CellarError : mg "CellarError" = some (.ref (G.ca 6))) (hSub : SubOk G nX (G.ca 6) subT) (n_len : mg "len" = none) :
    FnI P w G mg base 6 f fd ["line", "size"] m_bottle_of :=
  FnI.of F sc_bottle_of fun cdv A outer s H E c => (okSeq (okFrz (okSet c.toXJ 2 (okM (T := .str) c.toXJ PySem.F.plainAttrs_str PySem.F.slot_str_split PySem.F.type_str_split ok_split (okPLoc 0) (okAPCons (okPOf okStr) okAPNil))))
    (okSeq (okIf (okCmT (ok_notIn c.toXJ) (okPOf (okB (ok_len c.toXJ) n_len (by decide +kernel) (okAPCons (okPLoc 2) okAPNil))) (okPOf (okTup (okACons (okUse okInt) (okACons (okUse okInt) okANil))))) (okOne (okRet okNon)) okNil)
    (okSeq (okFrz (okLcSet (i := 3) (own := [("word", 4)]) c (okISeq c.toXJ (okCut c.toXJ (okPLoc 2) (okPart (okPOf okInt)) okNoPart)) (⟨rfl, by decide +kernel, by decide +kernel, by decide +kernel, by decide +kernel⟩ : BlkOk ["line", "size", "words", "numbers", "word"] (defScope st_bottle_of) _ _) (fun s2 H2 C2 cl2 fp2 => (okGNm (c.blk s2 H2 _ _ fp2).toXJ 4)) (by decide) (fun s2 H2 C2 cl2 fp2 => okYes) (fun s2 H2 C2 cl2 fp2 => (okUse (okCallB (c.blk s2 H2 _ _ fp2) k_number_of b_number_of_2 (okACons (okUse (okLoc 4)) (okACons (okUse (okGlo c_MOST_SIGNS_lines.1 c_MOST_SIGNS_lines.2.1 c_MOST_SIGNS_lines.2.2)) okANil)) (lenCons (lenCons lenNil)))))))
    (okSeq (okIf (okCmT (ok_in c.toXJ) (okPOf okNon) (okPLoc 3)) (okOne (okRet okNon)) okNil)
    (okOne (okTryN c gc_CellarError hSub (fun pns xe W2 c2 => (okOne (okRet (okMakeB (w := wayI) c2 k_Bottle b_Bottle___init___4 (okACons (okUse (okIx (ok_ix c2.toXJ) (okPLoc 2) (okPOf okInt))) (okACons (okUse (okIx (ok_ix c2.toXJ) (okPLoc 3) (okPOf okInt))) (okACons (okUse (okIx (ok_ix c2.toXJ) (okPOf (ok2 (ok_add c2.K) (okPLoc 3) (okPOf (okLst (okACons (okUse (okLoc 1)) okANil))))) (okPOf okInt))) okANil))) (lenCons (lenCons (lenCons lenNil))))))) (fun _ => pe_non) (fun _ _ => rfl)))))))
/-! ### read -/
abbrev st_read : Stmt := top 47
theorem sc_read : FnScope ["text", "size", "found", "number", "line", "sign", "one"] ["text", "size"] (defScope st_read) := ⟨rfl, rfl, rfl, by decide +kernel, rfl, by decide +kernel, by decide +kernel⟩
theorem o_read {P : Program} {w : World} {G : Ga} {mg : Str → Option Value} {base : Heap} {f : Addr} {fd : FuncData} (F : FunD G.K "read" "read" (defArgs st_read) (defBody st_read) (defScope st_read) [(.int 75)] [] f fd)
    {f_bottle_of : Addr} {d_bottle_of : FuncData} (k_bottle_of : Kn P w G mg base 6 "bottle_of" ["line", "size"] m_bottle_of f_bottle_of d_bottle_of) {d_NoText___init__ : FuncData} (b_NoText___init___1 : Bd G d_NoText___init__ ["self", "line"] [(.int 0)]) (b_NoText___init___2 : Bd G d_NoText___init__ ["self", "line"] []) (b_bottle_of_2 : Bd G d_bottle_of ["line", "size"] []) (t_SIZES_lines : mg "SIZES_lines" = some (.ref (He.ga G.K "SIZES_lines")) ∧ ∀ g H, Is G g H (.tup [(.int 37), (.int 75), (.int 150)]) (.ref (He.ga G.K "SIZES_lines"))) (hIu : IuOk G 5 6) {f_NoText : Addr} (ke_NoText : KnE P w G mg base 2 "NoText" [2] ["self", "line"] f_NoText d_NoText___init__) (gc_NoSize : mg "NoSize" = some (.ref (G.ca 1))) (gc_NoText : mg "NoText" = some (.ref (G.ca 2))) (er_NoSize : ExcR G.K (G.ca 1)) (n_bool : mg "bool" = none) (n_enumerate : mg "enumerate" = none) (n_int : mg "int" = none) (n_isinstance : mg "isinstance" = none) (n_str : mg "str" = none) :
    FnI P w G mg base 7 f fd ["text", "size"] m_read :=
  FnI.of F sc_read fun cdv A outer s H E c => (okSeq (okIf (okW (okOr (okTru c.K (okPOf (okB (ok_isi c.toXJ) n_isinstance (by decide +kernel) (okAPCons (okPLoc 1) (okAPCons (okPOf (okTy n_bool (by decide +kernel))) okAPNil))))) (okOr (okNot (okTru c.K (okPOf (okB (ok_isi c.toXJ) n_isinstance (by decide +kernel) (okAPCons (okPLoc 1) (okAPCons (okPOf (okTy n_int (by decide +kernel))) okAPNil)))))) (okOr1 (okCmT (ok_notIn c.toXJ) (okPLoc 1) (okPOf (okGlo (v := .ref (He.ga G.K "SIZES_lines")) t_SIZES_lines.1 rfl t_SIZES_lines.2))))))) (okOne (okRaise c 1 er_NoSize gc_NoSize)) okNil)
    (okSeq (okIf (okNot (okTru c.K (okPOf (okB (ok_isU c.toXJ hIu) n_isinstance (by decide +kernel) (okAPCons (okPLoc 0) (okAPCons (okPOf (okTy n_str (by decide +kernel))) okAPNil)))))) (okOne (okRaiseF0 c ke_NoText b_NoText___init___1)) okNil)
    (okSeq (okSet c.toXJ 2 (okLst okANil))
    (okSeq (okFor c (okIEnum c.toXJ n_enumerate (okACons (okUse (okM (T := .str) c.toXJ PySem.F.plainAttrs_str PySem.F.slot_str_split PySem.F.type_str_split ok_split (okPLoc 0) (okAPCons (okPOf okStr) okAPNil))) okANil)) (okGTup c (okGCons (okGNm c.toXJ 3) (okGCons (okGNm c.toXJ 4) okGNil))) (okOne (okIf (okCmT (ok_ne c.toXJ) (okPOf (okLcE (own := [("sign", 5)]) c (okISeq c.toXJ (okLoc 4)) (⟨rfl, by decide +kernel, by decide +kernel, by decide +kernel, by decide +kernel⟩ : BlkOk ["text", "size", "found", "number", "line", "sign", "one"] (defScope st_read) _ _) (fun s2 H2 C2 cl2 fp2 => (okGNm (c.blk s2 H2 _ _ fp2).toXJ 5)) (by decide) (fun s2 H2 C2 cl2 fp2 => (pts_one (okCmT (ok_notIn (c.blk s2 H2 _ _ fp2).toXJ) (okPLoc 5) (okPOf okStr)))) (fun s2 H2 C2 cl2 fp2 => (okUse (okLoc 5))))) (okPOf (okLst okANil))) (okSeq (okFrz (okSet c.toXJ 6 (okCallB c k_bottle_of b_bottle_of_2 (okACons (okUse (okLoc 4)) (okACons (okUse (okLoc 1)) okANil)) (lenCons (lenCons lenNil)))))
    (okSeq (okIf (okIsN (okPLoc 6)) (okOne (okRaiseF c ke_NoText b_NoText___init___2 (okACons (okUse (ok2 (ok_add c.K) (okPLoc 3) (okPOf okInt))) okANil) (lenCons lenNil))) okNil)
    (okOne (okExp (okMut (T := .list) c.toXJ PySem.F.plainAttrs_list PySem.F.slot_list_append PySem.F.type_list_append ok_append (okPLoc 2) (okACons (okUse (okLoc 6)) okANil)))))) okNil)))
    (okOne (okMov 2))))))
/-! ### _law_cell_at -/
abbrev st__law_cell_at : Stmt := top 49
theorem sc__law_cell_at : FnScope ["_law_script", "_law_k"] ["_law_script", "_law_k"] (defScope st__law_cell_at) := ⟨rfl, rfl, rfl, by decide +kernel, rfl, by decide +kernel, by decide +kernel⟩
theorem o__law_cell_at {P : Program} {w : World} {G : Ga} {mg : Str → Option Value} {base : Heap} {f : Addr} {fd : FuncData} (F : FunD G.K "_law_cell_at" "_law_cell_at" (defArgs st__law_cell_at) (defBody st__law_cell_at) (defScope st__law_cell_at) [] [] f fd)
    (n_len : mg "len" = none) :
    FnI P w G mg base 1 f fd ["_law_script", "_law_k"] m__law_cell_at :=
  FnI.of F sc__law_cell_at fun cdv A outer s H E c => (okSeq (okIf (okCmT (ok_lt c.toXJ) (okPLoc 1) (okPOf (okB (ok_len c.toXJ) n_len (by decide +kernel) (okAPCons (okPLoc 0) okAPNil)))) (okOne (okRet (okIx (ok_ix c.toXJ) (okPLoc 0) (okPLoc 1)))) okNil)
    (okOne (okRet okInt)))
/-! ### _law_pot -/
abbrev st__law_pot : Stmt := top 50
theorem sc__law_pot : FnScope ["_law_cell", "_law_token", "_law_j", "_law_more"] ["_law_cell"] (defScope st__law_pot) := ⟨rfl, rfl, rfl, by decide +kernel, rfl, by decide +kernel, by decide +kernel⟩
theorem o__law_pot {P : Program} {w : World} {G : Ga} {mg : Str → Option Value} {base : Heap} {f : Addr} {fd : FuncData} (F : FunD G.K "_law_pot" "_law_pot" (defArgs st__law_pot) (defBody st__law_pot) (defScope st__law_pot) [] [] f fd)
    (n_range : mg "range" = none) :
    FnI P w G mg base 1 f fd ["_law_cell"] m__law_pot :=
  FnI.of F sc__law_pot fun cdv A outer s H E c => (okSeq (okIf (okCmT (ok_ge c.toXJ) (okPLoc 0) (okPOf (ok2 ok_pow (okPOf okInt) (okPOf okInt)))) (okOne (okRet (okLst (okACons (okUse (ok2 ok_sub (okPLoc 0) (okPOf (ok2 ok_pow (okPOf okInt) (okPOf okInt))))) okANil)))) okNil)
    (okSeq (okSet c.toXJ 1 okInt)
    (okSeq (okFor c (okIR1 n_range (okAPCons (okPOf okInt) okAPNil)) (okGNm c.toXJ 2) (okSeq (okFrz (okSet c.toXJ 3 (ok2 ok_mod (okPOf (ok2 ok_mul (okPOf (ok2 (ok_add c.K) (okPOf (ok2 (ok_add c.K) (okPOf (ok2 ok_mod (okPLoc 0) (okPOf okInt))) (okPOf (ok2 ok_mul (okPOf okInt) (okPLoc 2))))) (okPOf okInt))) (okPOf okInt))) (okPOf okInt))))
    (okSeq (okFrz (okSet c.toXJ 3 (ok2 ok_mod (okPOf (ok2 (ok_add c.K) (okPOf (ok2 (ok_add c.K) (okPOf (ok2 ok_mul (okPLoc 3) (okPLoc 3))) (okPOf (ok2 ok_mul (okPOf okInt) (okPLoc 2))))) (okPOf okInt))) (okPOf okInt))))
    (okOne (okFrz (okSet c.toXJ 1 (ok2 (ok_add c.K) (okPOf (ok2 ok_mul (okPLoc 1) (okPOf okInt))) (okPLoc 3))))))))
    (okOne (okRet (okLst (okACons (okUse (okLoc 1)) okANil)))))))
/-! ### _law_take -/
abbrev st__law_take : Stmt := top 51
theorem sc__law_take : FnScope ["_law_pot_here", "_law_far", "_law_found"] ["_law_pot_here", "_law_far"] (defScope st__law_take) := ⟨rfl, rfl, rfl, by decide +kernel, rfl, by decide +kernel, by decide +kernel⟩
theorem o__law_take {P : Program} {w : World} {G : Ga} {mg : Str → Option Value} {base : Heap} {f : Addr} {fd : FuncData} (F : FunD G.K "_law_take" "_law_take" (defArgs st__law_take) (defBody st__law_take) (defScope st__law_take) [] [] f fd)
     :
    FnI P w G mg base 1 f fd ["_law_pot_here", "_law_far"] m__law_take :=
  FnI.of F sc__law_take fun cdv A outer s H E c => (okSeq (okFrz (okSet c.toXJ 2 (ok2 ok_mod (okPOf (okIx (ok_ix c.toXJ) (okPLoc 0) (okPOf okInt))) (okPLoc 1))))
    (okSeq (okPut c.toXJ (okUse (ok2 ok_div (okPOf (okIx (ok_ix c.toXJ) (okPLoc 0) (okPOf okInt))) (okPLoc 1))) (okPLoc 0) (okUse okInt))
    (okOne (okMov 2))))
/-! ### _law_mixed -/
abbrev st__law_mixed : Stmt := top 52
theorem sc__law_mixed : FnScope ["_law_pot_here", "_law_some", "_law_left", "_law_one"] ["_law_pot_here", "_law_some"] (defScope st__law_mixed) := ⟨rfl, rfl, rfl, by decide +kernel, rfl, by decide +kernel, by decide +kernel⟩
theorem o__law_mixed {P : Program} {w : World} {G : Ga} {mg : Str → Option Value} {base : Heap} {f : Addr} {fd : FuncData} (F : FunD G.K "_law_mixed" "_law_mixed" (defArgs st__law_mixed) (defBody st__law_mixed) (defScope st__law_mixed) [] [] f fd)
    {f__law_take : Addr} {d__law_take : FuncData} (k__law_take : Kn P w G mg base 1 "_law_take" ["_law_pot_here", "_law_far"] m__law_take f__law_take d__law_take) (b__law_take_2 : Bd G d__law_take ["_law_pot_here", "_law_far"] []) (n_len : mg "len" = none) (n_list : mg "list" = none) :
    FnI P w G mg base 2 f fd ["_law_pot_here", "_law_some"] m__law_mixed :=
  FnI.of F sc__law_mixed fun cdv A outer s H E c => (okSeq (okSet c.toXJ 2 (okBT (ok_listX c) n_list (by decide +kernel) (okAPCons (okPLoc 1) okAPNil)))
    (okOne (okRet (okLcE (own := [("_law_one", 3)]) c (okISeq c.toXJ (okLoc 1)) (⟨rfl, by decide +kernel, by decide +kernel, by decide +kernel, by decide +kernel⟩ : BlkOk ["_law_pot_here", "_law_some", "_law_left", "_law_one"] (defScope st__law_mixed) _ _) (fun s2 H2 C2 cl2 fp2 => (okGNm (c.blk s2 H2 _ _ fp2).toXJ 3)) (by decide) (fun s2 H2 C2 cl2 fp2 => okYes) (fun s2 H2 C2 cl2 fp2 => (okUse (okMut (T := .list) (c.blk s2 H2 _ _ fp2).toXJ PySem.F.plainAttrs_list PySem.F.slot_list_pop PySem.F.type_list_pop ok_pop (okPLoc 2) (okACons (okUse (okCallB (c.blk s2 H2 _ _ fp2) k__law_take b__law_take_2 (okACons (okUse (okLoc 0)) (okACons (okUse (okB (ok_len (c.blk s2 H2 _ _ fp2).toXJ) n_len (by decide +kernel) (okAPCons (okPLoc 2) okAPNil))) okANil)) (lenCons (lenCons lenNil)))) okANil))))))))
/-! ### _law_odd -/
abbrev st__law_odd : Stmt := top 53
theorem sc__law_odd : FnScope ["_law_pot_here", "_law_some"] ["_law_pot_here"] (defScope st__law_odd) := ⟨rfl, rfl, rfl, by decide +kernel, rfl, by decide +kernel, by decide +kernel⟩
theorem o__law_odd {P : Program} {w : World} {G : Ga} {mg : Str → Option Value} {base : Heap} {f : Addr} {fd : FuncData} (F : FunD G.K "_law_odd" "_law_odd" (defArgs st__law_odd) (defBody st__law_odd) (defScope st__law_odd) [] [] f fd)
    {f__law_take : Addr} {d__law_take : FuncData} (k__law_take : Kn P w G mg base 1 "_law_take" ["_law_pot_here", "_law_far"] m__law_take f__law_take d__law_take) (b__law_take_2 : Bd G d__law_take ["_law_pot_here", "_law_far"] []) (n_len : mg "len" = none) :
    FnI P w G mg base 2 f fd ["_law_pot_here"] m__law_odd :=
  FnI.of F sc__law_odd fun cdv A outer s H E c => (okSeq (okFrz (okSet c.toXJ 1 (okLst (okACons (okUse okNon) (okACons (okUse okBl) (okACons (okUse okBl) (okACons (okUse (ok1 ok_neg (okPOf okInt))) (okACons (okUse (ok2 ok_pow (okPOf okInt) (okPOf okInt))) (okACons (okUse okStr) (okACons (okUse okStr) (okACons (okUse okStr) (okACons (okUse (okTup okANil)) (okACons (okUse (okLst okANil)) (okACons (okUse okDic0) (okACons (okUse (okLst (okACons (okUse (okTup okANil)) okANil))) (okACons (okUse (okTup (okACons (okUse (okTup okANil)) okANil))) (okACons (okUse (okTup (okACons (okUse okInt) okANil))) (okACons (okUse (okLst (okACons (okUse okInt) okANil))) (okACons (okUse okDicI) (okACons (okUse (okTup (okACons (okUse okBl) (okACons (okUse okBl) okANil)))) okANil))))))))))))))))))))
    (okOne (okRet (okIx (ok_ix c.toXJ) (okPLoc 1) (okPOf (okCallB c k__law_take b__law_take_2 (okACons (okUse (okLoc 0)) (okACons (okUse (okB (ok_len c.toXJ) n_len (by decide +kernel) (okAPCons (okPLoc 1) okAPNil))) okANil)) (lenCons (lenCons lenNil))))))))
/-! ### _law_kinds -/
abbrev st__law_kinds : Stmt := top 54
theorem sc__law_kinds : FnScope ["_law_pot_here", "_law_makers", "_law_found", "_law_turn", "_law_year"] ["_law_pot_here"] (defScope st__law_kinds) := ⟨rfl, rfl, rfl, by decide +kernel, rfl, by decide +kernel, by decide +kernel⟩
theorem o__law_kinds {P : Program} {w : World} {G : Ga} {mg : Str → Option Value} {base : Heap} {f : Addr} {fd : FuncData} (F : FunD G.K "_law_kinds" "_law_kinds" (defArgs st__law_kinds) (defBody st__law_kinds) (defScope st__law_kinds) [] [] f fd)
    {f__law_mixed : Addr} {d__law_mixed : FuncData} (k__law_mixed : Kn P w G mg base 2 "_law_mixed" ["_law_pot_here", "_law_some"] m__law_mixed f__law_mixed d__law_mixed) {f__law_take : Addr} {d__law_take : FuncData} (k__law_take : Kn P w G mg base 2 "_law_take" ["_law_pot_here", "_law_far"] m__law_take f__law_take d__law_take) (b__law_mixed_2 : Bd G d__law_mixed ["_law_pot_here", "_law_some"] []) (b__law_take_2 : Bd G d__law_take ["_law_pot_here", "_law_far"] []) (n_len : mg "len" = none) (n_range : mg "range" = none) :
    FnI P w G mg base 3 f fd ["_law_pot_here"] m__law_kinds :=
  FnI.of F sc__law_kinds fun cdv A outer s H E c => (okSeq (okFrz (okSet c.toXJ 1 (okCut c.toXJ (okPOf (okCallB c k__law_mixed b__law_mixed_2 (okACons (okUse (okLoc 0)) (okACons (okUse (okLst (okACons (okUse okStr) (okACons (okUse okStr) (okACons (okUse okStr) (okACons (okUse okStr) (okACons (okUse okStr) okANil))))))) okANil)) (lenCons (lenCons lenNil)))) okNoPart (okPart (okPOf (ok2 (ok_add c.K) (okPOf okInt) (okPOf (okCallB c k__law_take b__law_take_2 (okACons (okUse (okLoc 0)) (okACons (okUse okInt) okANil)) (lenCons (lenCons lenNil))))))))))
    (okSeq (okSet c.toXJ 2 (okLst okANil))
    (okSeq (okFor c (okIR1 n_range (okAPCons (okPOf (ok2 (ok_add c.K) (okPOf okInt) (okPOf (okCallB c k__law_take b__law_take_2 (okACons (okUse (okLoc 0)) (okACons (okUse okInt) okANil)) (lenCons (lenCons lenNil)))))) okAPNil)) (okGNm c.toXJ 3) (okSeq (okFrz (okSet c.toXJ 4 (okIx (ok_ix c.toXJ) (okPOf (okLst (okACons (okUse okInt) (okACons (okUse okInt) (okACons (okUse (ok2 (ok_add c.K) (okPOf okInt) (okPOf (okCallB c k__law_take b__law_take_2 (okACons (okUse (okLoc 0)) (okACons (okUse okInt) okANil)) (lenCons (lenCons lenNil)))))) (okACons (okUse (ok2 (ok_add c.K) (okPOf okInt) (okPOf (okCallB c k__law_take b__law_take_2 (okACons (okUse (okLoc 0)) (okACons (okUse okInt) okANil)) (lenCons (lenCons lenNil)))))) okANil)))))) (okPOf (okCallB c k__law_take b__law_take_2 (okACons (okUse (okLoc 0)) (okACons (okUse okInt) okANil)) (lenCons (lenCons lenNil)))))))
    (okOne (okExp (okMut (T := .list) c.toXJ PySem.F.plainAttrs_list PySem.F.slot_list_append PySem.F.type_list_append ok_append (okPLoc 2) (okACons (okUse (okTup (okACons (okUse (okIx (ok_ix c.toXJ) (okPLoc 1) (okPOf (okCallB c k__law_take b__law_take_2 (okACons (okUse (okLoc 0)) (okACons (okUse (okB (ok_len c.toXJ) n_len (by decide +kernel) (okAPCons (okPLoc 1) okAPNil))) okANil)) (lenCons (lenCons lenNil)))))) (okACons (okUse (okLoc 4)) (okACons (okUse (okIx (ok_ix c.toXJ) (okPOf (okLst (okACons (okUse okInt) (okACons (okUse okInt) (okACons (okUse okInt) (okACons (okUse okInt) okANil)))))) (okPOf (okCallB c k__law_take b__law_take_2 (okACons (okUse (okLoc 0)) (okACons (okUse okInt) okANil)) (lenCons (lenCons lenNil)))))) okANil))))) okANil))))))
    (okOne (okMov 2)))))
/-! ### _law_word -/
abbrev st__law_word : Stmt := top 55
theorem sc__law_word : FnScope ["_law_e", "_law_some", "_law_words"] ["_law_e"] (defScope st__law_word) := ⟨rfl, rfl, rfl, by decide +kernel, rfl, by decide +kernel, by decide +kernel⟩
theorem o__law_word {P : Program} {w : World} {G : Ga} {mg : Str → Option Value} {base : Heap} {f : Addr} {fd : FuncData} (F : FunD G.K "_law_word" "_law_word" (defArgs st__law_word) (defBody st__law_word) (defScope st__law_word) [] [] f fd)
    (xf_fate : XfOk G nX 6 "fate") (xf_line : XfOk G nX 2 "line") (xf_many : XfOk G nX 0 "many") (xf_most : XfOk G nX 1 "most") (xf_number : XfOk G nX 5 "number") (xf_others : XfOk G nX 7 "others") (xf_room : XfOk G nX 3 "room") (xf_shelf : XfOk G nX 4 "shelf") (gc_CellarError : mg "CellarError" = some (.ref (G.ca 6))) (gc_Full : mg "Full" = some (.ref (G.ca 20))) (gc_Gone : mg "Gone" = some (.ref (G.ca 21))) (gc_HereError : mg "HereError" = some (.ref (G.ca 7))) (gc_Kept : mg "Kept" = some (.ref (G.ca 22))) (gc_NoBottle : mg "NoBottle" = some (.ref (G.ca 8))) (gc_NoBottles : mg "NoBottles" = some (.ref (G.ca 0))) (gc_NoDeed : mg "NoDeed" = some (.ref (G.ca 16))) (gc_NoHold : mg "NoHold" = some (.ref (G.ca 10))) (gc_NoLine : mg "NoLine" = some (.ref (G.ca 18))) (gc_NoMaker : mg "NoMaker" = some (.ref (G.ca 3))) (gc_NoMonth : mg "NoMonth" = some (.ref (G.ca 13))) (gc_NoNumber : mg "NoNumber" = some (.ref (G.ca 12))) (gc_NoPlace : mg "NoPlace" = some (.ref (G.ca 11))) (gc_NoRooms : mg "NoRooms" = some (.ref (G.ca 9))) (gc_NoSet : mg "NoSet" = some (.ref (G.ca 15))) (gc_NoSize : mg "NoSize" = some (.ref (G.ca 1))) (gc_NoText : mg "NoText" = some (.ref (G.ca 2))) (gc_NoWho : mg "NoWho" = some (.ref (G.ca 14))) (gc_NoWishes : mg "NoWishes" = some (.ref (G.ca 17))) (gc_NoYear : mg "NoYear" = some (.ref (G.ca 4))) (gc_TooMany : mg "TooMany" = some (.ref (G.ca 19))) (hX : XcOk G nX mroT ksT) (n_LookupError : mg "LookupError" = none) (n_ValueError : mg "ValueError" = none) (n_isinstance : mg "isinstance" = none) :
    FnX P w G mg base 1 f fd "_law_e" nX (hotOf m__law_word) :=
  FnX.of F sc__law_word fun x p dX cdv A outer s H E hx hn c => (okSeq (okFrz (okSet c.toXJ 1 (okLst (okACons (okUse (okB (ok_isX rfl hX (List.mem_singleton.mpr rfl) hx) n_isinstance (by decide +kernel) (okAPCons (okPLoc 0) (okAPCons (okPOf (okGlo (v := .ref (G.ca 3)) gc_NoMaker rfl (fun _ _ => rfl))) okAPNil)))) (okACons (okUse (okB (ok_isX rfl hX (List.mem_singleton.mpr rfl) hx) n_isinstance (by decide +kernel) (okAPCons (okPLoc 0) (okAPCons (okPOf (okGlo (v := .ref (G.ca 4)) gc_NoYear rfl (fun _ _ => rfl))) okAPNil)))) (okACons (okUse (okB (ok_isX rfl hX (List.mem_singleton.mpr rfl) hx) n_isinstance (by decide +kernel) (okAPCons (okPLoc 0) (okAPCons (okPOf (okGlo (v := .ref (G.ca 1)) gc_NoSize rfl (fun _ _ => rfl))) okAPNil)))) (okACons (okUse (okB (ok_isX rfl hX (List.mem_singleton.mpr rfl) hx) n_isinstance (by decide +kernel) (okAPCons (okPLoc 0) (okAPCons (okPOf (okGlo (v := .ref (G.ca 8)) gc_NoBottle rfl (fun _ _ => rfl))) okAPNil)))) okANil)))))))
    (okSeq (okFrz (okSet c.toXJ 1 (ok2 (ok_add c.K) (okPLoc 1) (okPOf (okLst (okACons (okUse (okB (ok_isX rfl hX (List.mem_singleton.mpr rfl) hx) n_isinstance (by decide +kernel) (okAPCons (okPLoc 0) (okAPCons (okPOf (okGlo (v := .ref (G.ca 0)) gc_NoBottles rfl (fun _ _ => rfl))) okAPNil)))) (okACons (okUse (okB (ok_isX rfl hX (List.mem_singleton.mpr rfl) hx) n_isinstance (by decide +kernel) (okAPCons (okPLoc 0) (okAPCons (okPOf (okGlo (v := .ref (G.ca 9)) gc_NoRooms rfl (fun _ _ => rfl))) okAPNil)))) (okACons (okUse (okB (ok_isX rfl hX (List.mem_singleton.mpr rfl) hx) n_isinstance (by decide +kernel) (okAPCons (okPLoc 0) (okAPCons (okPOf (okGlo (v := .ref (G.ca 10)) gc_NoHold rfl (fun _ _ => rfl))) okAPNil)))) (okACons (okUse (okB (ok_isX rfl hX (List.mem_singleton.mpr rfl) hx) n_isinstance (by decide +kernel) (okAPCons (okPLoc 0) (okAPCons (okPOf (okGlo (v := .ref (G.ca 13)) gc_NoMonth rfl (fun _ _ => rfl))) okAPNil)))) okANil)))))))))
    (okSeq (okFrz (okSet c.toXJ 1 (ok2 (ok_add c.K) (okPLoc 1) (okPOf (okLst (okACons (okUse (okB (ok_isX rfl hX (List.mem_singleton.mpr rfl) hx) n_isinstance (by decide +kernel) (okAPCons (okPLoc 0) (okAPCons (okPOf (okGlo (v := .ref (G.ca 14)) gc_NoWho rfl (fun _ _ => rfl))) okAPNil)))) (okACons (okUse (okB (ok_isX rfl hX (List.mem_singleton.mpr rfl) hx) n_isinstance (by decide +kernel) (okAPCons (okPLoc 0) (okAPCons (okPOf (okGlo (v := .ref (G.ca 15)) gc_NoSet rfl (fun _ _ => rfl))) okAPNil)))) (okACons (okUse (okB (ok_isX rfl hX (List.mem_singleton.mpr rfl) hx) n_isinstance (by decide +kernel) (okAPCons (okPLoc 0) (okAPCons (okPOf (okGlo (v := .ref (G.ca 16)) gc_NoDeed rfl (fun _ _ => rfl))) okAPNil)))) (okACons (okUse (okB (ok_isX rfl hX (List.mem_singleton.mpr rfl) hx) n_isinstance (by decide +kernel) (okAPCons (okPLoc 0) (okAPCons (okPOf (okGlo (v := .ref (G.ca 17)) gc_NoWishes rfl (fun _ _ => rfl))) okAPNil)))) okANil)))))))))
    (okSeq (okFrz (okSet c.toXJ 1 (ok2 (ok_add c.K) (okPLoc 1) (okPOf (okLst (okACons (okUse (okB (ok_isX rfl hX (List.mem_singleton.mpr rfl) hx) n_isinstance (by decide +kernel) (okAPCons (okPLoc 0) (okAPCons (okPOf (okGlo (v := .ref (G.ca 18)) gc_NoLine rfl (fun _ _ => rfl))) okAPNil)))) (okACons (okUse (okB (ok_isX rfl hX (List.mem_singleton.mpr rfl) hx) n_isinstance (by decide +kernel) (okAPCons (okPLoc 0) (okAPCons (okPOf (okGlo (v := .ref (G.ca 12)) gc_NoNumber rfl (fun _ _ => rfl))) okAPNil)))) (okACons (okUse (okB (ok_isX rfl hX (List.mem_singleton.mpr rfl) hx) n_isinstance (by decide +kernel) (okAPCons (okPLoc 0) (okAPCons (okPOf (okGlo (v := .ref (G.ca 11)) gc_NoPlace rfl (fun _ _ => rfl))) okAPNil)))) (okACons (okUse (okB (ok_isX rfl hX (List.mem_singleton.mpr rfl) hx) n_isinstance (by decide +kernel) (okAPCons (okPLoc 0) (okAPCons (okPOf (okGlo (v := .ref (G.ca 19)) gc_TooMany rfl (fun _ _ => rfl))) okAPNil)))) okANil)))))))))
    (okSeq (okFrz (okSet c.toXJ 1 (ok2 (ok_add c.K) (okPLoc 1) (okPOf (okLst (okACons (okUse (okB (ok_isX rfl hX (List.mem_singleton.mpr rfl) hx) n_isinstance (by decide +kernel) (okAPCons (okPLoc 0) (okAPCons (okPOf (okGlo (v := .ref (G.ca 2)) gc_NoText rfl (fun _ _ => rfl))) okAPNil)))) (okACons (okUse (okB (ok_isX rfl hX (List.mem_singleton.mpr rfl) hx) n_isinstance (by decide +kernel) (okAPCons (okPLoc 0) (okAPCons (okPOf (okGlo (v := .ref (G.ca 20)) gc_Full rfl (fun _ _ => rfl))) okAPNil)))) (okACons (okUse (okB (ok_isX rfl hX (List.mem_singleton.mpr rfl) hx) n_isinstance (by decide +kernel) (okAPCons (okPLoc 0) (okAPCons (okPOf (okGlo (v := .ref (G.ca 21)) gc_Gone rfl (fun _ _ => rfl))) okAPNil)))) (okACons (okUse (okB (ok_isX rfl hX (List.mem_singleton.mpr rfl) hx) n_isinstance (by decide +kernel) (okAPCons (okPLoc 0) (okAPCons (okPOf (okGlo (v := .ref (G.ca 22)) gc_Kept rfl (fun _ _ => rfl))) okAPNil)))) okANil)))))))))
    (okSeq (okIf (okW (okOr (okCmT (ok_ne c.toXJ) (okPOf (okM2 (okM (T := .list) c.toXJ PySem.F.plainAttrs_list PySem.F.slot_list_count PySem.F.type_list_count (ok_count c.toXJ) (okPLoc 1) (okAPCons (okPOf okBl) okAPNil)) (okM (T := .tuple) c.toXJ PySem.F.plainAttrs_tuple PySem.F.slot_tuple_count PySem.F.type_tuple_count (ok_countT c.toXJ) (okPLoc 1) (okAPCons (okPOf okBl) okAPNil)))) (okPOf okInt)) (okOr1 (okCmT (ok_eq c.toXJ) (okPOf (okB (ok_isX rfl hX (List.mem_singleton.mpr rfl) hx) n_isinstance (by decide +kernel) (okAPCons (okPLoc 0) (okAPCons (okPOf (okGlo (v := .ref (G.ca 6)) gc_CellarError rfl (fun _ _ => rfl))) okAPNil)))) (okPOf (okB (ok_isX rfl hX (List.mem_singleton.mpr rfl) hx) n_isinstance (by decide +kernel) (okAPCons (okPLoc 0) (okAPCons (okPOf (okGlo (v := .ref (G.ca 7)) gc_HereError rfl (fun _ _ => rfl))) okAPNil)))))))) (okOne (okRet (okTup (okACons (okUse okStr) okANil)))) okNil)
    (okSeq (okIf (okW (okAnd (okTru c.K (okPOf (okB (ok_isX rfl hX (List.mem_singleton.mpr rfl) hx) n_isinstance (by decide +kernel) (okAPCons (okPLoc 0) (okAPCons (okPOf (okGlo (v := .ref (G.ca 6)) gc_CellarError rfl (fun _ _ => rfl))) okAPNil))))) (okAnd1 (okNot (okTru c.K (okPOf (okB (ok_isX rfl hX (List.mem_singleton.mpr rfl) hx) n_isinstance (by decide +kernel) (okAPCons (okPLoc 0) (okAPCons (okPOf (okTy n_ValueError (by decide +kernel))) okAPNil))))))))) (okOne (okRet (okTup (okACons (okUse okStr) okANil)))) okNil)
    (okSeq (okIf (okW (okAnd (okTru c.K (okPOf (okB (ok_isX rfl hX (List.mem_singleton.mpr rfl) hx) n_isinstance (by decide +kernel) (okAPCons (okPLoc 0) (okAPCons (okPOf (okGlo (v := .ref (G.ca 7)) gc_HereError rfl (fun _ _ => rfl))) okAPNil))))) (okAnd1 (okNot (okTru c.K (okPOf (okB (ok_isX rfl hX (List.mem_singleton.mpr rfl) hx) n_isinstance (by decide +kernel) (okAPCons (okPLoc 0) (okAPCons (okPOf (okTy n_LookupError (by decide +kernel))) okAPNil))))))))) (okOne (okRet (okTup (okACons (okUse okStr) okANil)))) okNil)
    (okSeq (okIf (okTru c.K (okPOf (okB (ok_isX rfl hX (List.mem_singleton.mpr rfl) hx) n_isinstance (by decide +kernel) (okAPCons (okPLoc 0) (okAPCons (okPOf (okGlo (v := .ref (G.ca 19)) gc_TooMany rfl (fun _ _ => rfl))) okAPNil))))) (okOne (okRet (okTup (okACons (okUse okStr) (okACons (okUse (okXf c.toXJ xf_many (List.mem_singleton.mpr rfl) hx hn (okPLoc 0))) (okACons (okUse (okXf c.toXJ xf_most (List.mem_singleton.mpr rfl) hx hn (okPLoc 0))) okANil)))))) okNil)
    (okSeq (okIf (okTru c.K (okPOf (okB (ok_isX rfl hX (List.mem_singleton.mpr rfl) hx) n_isinstance (by decide +kernel) (okAPCons (okPLoc 0) (okAPCons (okPOf (okGlo (v := .ref (G.ca 2)) gc_NoText rfl (fun _ _ => rfl))) okAPNil))))) (okOne (okRet (okTup (okACons (okUse okStr) (okACons (okUse (okXf c.toXJ xf_line (List.mem_singleton.mpr rfl) hx hn (okPLoc 0))) okANil))))) okNil)
    (okSeq (okIf (okTru c.K (okPOf (okB (ok_isX rfl hX (List.mem_singleton.mpr rfl) hx) n_isinstance (by decide +kernel) (okAPCons (okPLoc 0) (okAPCons (okPOf (okGlo (v := .ref (G.ca 20)) gc_Full rfl (fun _ _ => rfl))) okAPNil))))) (okOne (okRet (okTup (okACons (okUse okStr) (okACons (okUse (okXf c.toXJ xf_room (List.mem_singleton.mpr rfl) hx hn (okPLoc 0))) (okACons (okUse (okXf c.toXJ xf_shelf (List.mem_singleton.mpr rfl) hx hn (okPLoc 0))) okANil)))))) okNil)
    (okSeq (okIf (okTru c.K (okPOf (okB (ok_isX rfl hX (List.mem_singleton.mpr rfl) hx) n_isinstance (by decide +kernel) (okAPCons (okPLoc 0) (okAPCons (okPOf (okGlo (v := .ref (G.ca 21)) gc_Gone rfl (fun _ _ => rfl))) okAPNil))))) (okOne (okRet (okTup (okACons (okUse okStr) (okACons (okUse (okXf c.toXJ xf_number (List.mem_singleton.mpr rfl) hx hn (okPLoc 0))) (okACons (okUse (okXf c.toXJ xf_fate (List.mem_singleton.mpr rfl) hx hn (okPLoc 0))) okANil)))))) okNil)
    (okSeq (okIf (okTru c.K (okPOf (okB (ok_isX rfl hX (List.mem_singleton.mpr rfl) hx) n_isinstance (by decide +kernel) (okAPCons (okPLoc 0) (okAPCons (okPOf (okGlo (v := .ref (G.ca 22)) gc_Kept rfl (fun _ _ => rfl))) okAPNil))))) (okOne (okRet (okTup (okACons (okUse okStr) (okACons (okUse (okXf c.toXJ xf_number (List.mem_singleton.mpr rfl) hx hn (okPLoc 0))) (okACons (okUse (okXf c.toXJ xf_others (List.mem_singleton.mpr rfl) hx hn (okPLoc 0))) okANil)))))) okNil)
    (okSeq (okFrz (okSet c.toXJ 2 (okLst (okACons (okUse okStr) (okACons (okUse okStr) (okACons (okUse okStr) (okACons (okUse okStr) (okACons (okUse okStr) (okACons (okUse okStr) (okACons (okUse okStr) (okACons (okUse okStr) (okACons (okUse okStr) (okACons (okUse okStr) (okACons (okUse okStr) (okACons (okUse okStr) okANil)))))))))))))))
    (okOne (okRet (okTup (okACons (okUse (okIx (ok_ix c.toXJ) (okPOf (ok2 (ok_add c.K) (okPLoc 2) (okPOf (okLst (okACons (okUse okStr) (okACons (okUse okStr) (okACons (okUse okStr) okANil))))))) (okPOf (okM2 (okM (T := .list) c.toXJ PySem.F.plainAttrs_list PySem.F.slot_list_index PySem.F.type_list_index (ok_index c.toXJ) (okPLoc 1) (okAPCons (okPOf okBl) okAPNil)) (okM (T := .tuple) c.toXJ PySem.F.plainAttrs_tuple PySem.F.slot_tuple_index PySem.F.type_tuple_index (ok_indexT c.toXJ) (okPLoc 1) (okAPCons (okPOf okBl) okAPNil)))))) okANil))))))))))))))))))
/-! ### _law_kind_of -/
abbrev st__law_kind_of : Stmt := top 56
theorem sc__law_kind_of : FnScope ["_law_bottle"] ["_law_bottle"] (defScope st__law_kind_of) := ⟨rfl, rfl, rfl, by decide +kernel, rfl, by decide +kernel, by decide +kernel⟩
theorem o__law_kind_of {P : Program} {w : World} {G : Ga} {mg : Str → Option Value} {base : Heap} {f : Addr} {fd : FuncData} (F : FunD G.K "_law_kind_of" "_law_kind_of" (defArgs st__law_kind_of) (defBody st__law_kind_of) (defScope st__law_kind_of) [] [] f fd)
    (fd_maker : FdOk G 5 8 "maker") (fd_size : FdOk G 5 10 "size") (fd_year : FdOk G 5 9 "year") :
    FnI P w G mg base 1 f fd ["_law_bottle"] m__law_kind_of :=
  FnI.of F sc__law_kind_of fun cdv A outer s H E c => (okOne (okRet (okTup (okACons (okUse (okFld c.toXJ fd_maker (okPLoc 0))) (okACons (okUse (okFld c.toXJ fd_year (okPLoc 0))) (okACons (okUse (okFld c.toXJ fd_size (okPLoc 0))) okANil))))))
/-! ### _law_bottles -/
abbrev st__law_bottles : Stmt := top 57
theorem sc__law_bottles : FnScope ["_law_pot_here", "_law_kinds_here", "_law_most", "_law_kind", "_law_one"] ["_law_pot_here", "_law_kinds_here", "_law_most"] (defScope st__law_bottles) := ⟨rfl, rfl, rfl, by decide +kernel, rfl, by decide +kernel, by decide +kernel⟩
theorem o__law_bottles {P : Program} {w : World} {G : Ga} {mg : Str → Option Value} {base : Heap} {f : Addr} {fd : FuncData} (F : FunD G.K "_law_bottles" "_law_bottles" (defArgs st__law_bottles) (defBody st__law_bottles) (defScope st__law_bottles) [] [] f fd)
    {f__law_take : Addr} {d__law_take : FuncData} (k__law_take : Kn P w G mg base 5 "_law_take" ["_law_pot_here", "_law_far"] m__law_take f__law_take d__law_take) {f_Bottle : Addr} {d_Bottle___init__ : FuncData} (k_Bottle : KnC P w G mg base 4 5 "Bottle" ["self", "maker", "year", "size"] m_Bottle___init__ f_Bottle d_Bottle___init__) (b_Bottle___init___4 : Bd G d_Bottle___init__ ["self", "maker", "year", "size"] []) (b__law_take_2 : Bd G d__law_take ["_law_pot_here", "_law_far"] []) (n_len : mg "len" = none) (n_range : mg "range" = none) :
    FnI P w G mg base 6 f fd ["_law_pot_here", "_law_kinds_here", "_law_most"] m__law_bottles :=
  FnI.of F sc__law_bottles fun cdv A outer s H E c => (okOne (okRet (okLcE (own := [("_law_kind", 3)]) c (okISeq c.toXJ (okLcE (own := [("_law_one", 4)]) c (okIR1 n_range (okAPCons (okPLoc 2) okAPNil)) (⟨rfl, by decide +kernel, by decide +kernel, by decide +kernel, by decide +kernel⟩ : BlkOk ["_law_pot_here", "_law_kinds_here", "_law_most", "_law_kind", "_law_one"] (defScope st__law_bottles) _ _) (fun s2 H2 C2 cl2 fp2 => (okGNm (c.blk s2 H2 _ _ fp2).toXJ 4)) (by decide) (fun s2 H2 C2 cl2 fp2 => okYes) (fun s2 H2 C2 cl2 fp2 => (okUse (okIx (ok_ix (c.blk s2 H2 _ _ fp2).toXJ) (okPLoc 1) (okPOf (okCallB (c.blk s2 H2 _ _ fp2) k__law_take b__law_take_2 (okACons (okUse (okLoc 0)) (okACons (okUse (okB (ok_len (c.blk s2 H2 _ _ fp2).toXJ) n_len (by decide +kernel) (okAPCons (okPLoc 1) okAPNil))) okANil)) (lenCons (lenCons lenNil))))))))) (⟨rfl, by decide +kernel, by decide +kernel, by decide +kernel, by decide +kernel⟩ : BlkOk ["_law_pot_here", "_law_kinds_here", "_law_most", "_law_kind", "_law_one"] (defScope st__law_bottles) _ _) (fun s2 H2 C2 cl2 fp2 => (okGNm (c.blk s2 H2 _ _ fp2).toXJ 3)) (by decide) (fun s2 H2 C2 cl2 fp2 => okYes) (fun s2 H2 C2 cl2 fp2 => (okUse (okMakeB (w := wayI) (c.blk s2 H2 _ _ fp2) k_Bottle b_Bottle___init___4 (okACons (okUse (okIx (ok_ix (c.blk s2 H2 _ _ fp2).toXJ) (okPLoc 3) (okPOf okInt))) (okACons (okUse (okIx (ok_ix (c.blk s2 H2 _ _ fp2).toXJ) (okPLoc 3) (okPOf okInt))) (okACons (okUse (okIx (ok_ix (c.blk s2 H2 _ _ fp2).toXJ) (okPLoc 3) (okPOf okInt))) okANil))) (lenCons (lenCons (lenCons lenNil)))))))))
/-! ### _law_heard -/
abbrev st__law_heard : Stmt := top 58
theorem sc__law_heard : FnScope ["_law_text", "_law_litres", "_law_told", "_law_e", "_law_one"] ["_law_text", "_law_litres"] (defScope st__law_heard) := ⟨rfl, rfl, rfl, by decide +kernel, rfl, by decide +kernel, by decide +kernel⟩
theorem o__law_heard {P : Program} {w : World} {G : Ga} [PgT G] {mg : Str → Option Value} {base : Heap} {f : Addr} {fd : FuncData} (F : FunD G.K "_law_heard" "_law_heard" (defArgs st__law_heard) (defBody st__law_heard) (defScope st__law_heard) [] [] f fd)
    {f__law_word : Addr} {d__law_word : FuncData} (kx__law_word : KnX P w G mg base 7 "_law_word" "_law_e" nX (hotOf m__law_word) f__law_word d__law_word) {f_read : Addr} {d_read : FuncData} (k_read : Kn P w G mg base 7 "read" ["text", "size"] m_read f_read d_read) {f__law_kind_of : Addr} {d__law_kind_of : FuncData} (k__law_kind_of : Kn P w G mg base 7 "_law_kind_of" ["_law_bottle"] m__law_kind_of f__law_kind_of d__law_kind_of) (b__law_kind_of_1 : Bd G d__law_kind_of ["_law_bottle"] []) (b_read_1 : Bd G d_read ["text", "size"] [(.int 75)]) (w_read_1_size : KwI G d_read ["text", "size"] 1 ["size"] [.p 0, .k 0] [(.int 75)]) (hSm : SmOk G.K) (gc_CellarError : mg "CellarError" = some (.ref (G.ca 6))) (hSub : SubOk G nX (G.ca 6) subT) (n_repr : mg "repr" = none) :
    FnI P w G mg base 8 f fd ["_law_text", "_law_litres"] m__law_heard :=
  FnI.of F sc__law_heard fun cdv A outer s H E c => (okSeq (okTryB c 3 kx__law_word gc_CellarError hSub (fun pns xe W2 c2 => (okOne (okFrz (okSet c2.toXJ 2 (okIte (okCmT (ok_eq c2.toXJ) (okPOf (okB (ok_reprA c2.toXJ hSm) n_repr (by decide +kernel) (okAPCons (okPLoc 1) okAPNil))) (okPOf okStr)) (okCallB c2 k_read b_read_1 (okACons (okUse (okLoc 0)) okANil) (lenCons lenNil)) (okCallKB c2 k_read w_read_1_size (okACons (okUse (okLoc 0)) okANil) (okKCons (okUse (okLoc 1)) okKNil) (lenCons lenNil) (lenCons lenNil) (hlen := (fun ds zs h1 h2 => match ds, zs, h1, h2 with | [_], [_], _, _ => rfl)))))))))
    (okOne (okRet (okLcE (own := [("_law_one", 4)]) c (okISeq c.toXJ (okLoc 2)) (⟨rfl, by decide +kernel, by decide +kernel, by decide +kernel, by decide +kernel⟩ : BlkOk ["_law_text", "_law_litres", "_law_told", "_law_e", "_law_one"] (defScope st__law_heard) _ _) (fun s2 H2 C2 cl2 fp2 => (okGNm (c.blk s2 H2 _ _ fp2).toXJ 4)) (by decide) (fun s2 H2 C2 cl2 fp2 => okYes) (fun s2 H2 C2 cl2 fp2 => (okUse (okCallB (c.blk s2 H2 _ _ fp2) k__law_kind_of b__law_kind_of_1 (okACons (okUse (okLoc 4)) okANil) (lenCons lenNil))))))))
/-! ### _law_written_so -/
abbrev st__law_written_so : Stmt := top 59
theorem sc__law_written_so : FnScope ["_law_thing", "_law_e"] ["_law_thing"] (defScope st__law_written_so) := ⟨rfl, rfl, rfl, by decide +kernel, rfl, by decide +kernel, by decide +kernel⟩
theorem o__law_written_so {P : Program} {w : World} {G : Ga} {mg : Str → Option Value} {base : Heap} {f : Addr} {fd : FuncData} (F : FunD G.K "_law_written_so" "_law_written_so" (defArgs st__law_written_so) (defBody st__law_written_so) (defScope st__law_written_so) [] [] f fd)
    {f__law_word : Addr} {d__law_word : FuncData} (kx__law_word : KnX P w G mg base 4 "_law_word" "_law_e" nX (hotOf m__law_word) f__law_word d__law_word) {f_written : Addr} {d_written : FuncData} (k_written : Kn P w G mg base 4 "written" ["bottles"] m_written f_written d_written) (b_written_1 : Bd G d_written ["bottles"] []) (gc_CellarError : mg "CellarError" = some (.ref (G.ca 6))) (hSub : SubOk G nX (G.ca 6) subT) :
    FnI P w G mg base 5 f fd ["_law_thing"] m__law_written_so :=
  FnI.of F sc__law_written_so fun cdv A outer s H E c => (okOne (okTryB c 1 kx__law_word gc_CellarError hSub (fun pns xe W2 c2 => (okOne (okRet (okCallB c2 k_written b_written_1 (okACons (okUse (okLoc 0)) okANil) (lenCons lenNil)))))))
/-! ### law -/
abbrev st_law : Stmt := top 60
theorem sc_law : FnScope ["_law_script", "_law_k", "_law_pot_here", "_law_kinds_here", "_law_turn", "_law_row", "_law_at", "_law_odds", "_law_odd_here", "_law_some", "_law_thing", "_law_kept", "_law_litres", "_law_text"] ["_law_script"] (defScope st_law) := ⟨rfl, rfl, rfl, by decide +kernel, rfl, by decide +kernel, by decide +kernel⟩
theorem o_law {P : Program} {w : World} {G : Ga} [PgT G] {mg : Str → Option Value} {base : Heap} {f : Addr} {fd : FuncData} (F : FunD G.K "law" "law" (defArgs st_law) (defBody st_law) (defScope st_law) [] [] f fd)
    {f__law_pot : Addr} {d__law_pot : FuncData} (k__law_pot : Kn P w G mg base 8 "_law_pot" ["_law_cell"] m__law_pot f__law_pot d__law_pot) {f__law_cell_at : Addr} {d__law_cell_at : FuncData} (k__law_cell_at : Kn P w G mg base 8 "_law_cell_at" ["_law_script", "_law_k"] m__law_cell_at f__law_cell_at d__law_cell_at) {f__law_kinds : Addr} {d__law_kinds : FuncData} (k__law_kinds : Kn P w G mg base 8 "_law_kinds" ["_law_pot_here"] m__law_kinds f__law_kinds d__law_kinds) {f__law_bottles : Addr} {d__law_bottles : FuncData} (k__law_bottles : Kn P w G mg base 8 "_law_bottles" ["_law_pot_here", "_law_kinds_here", "_law_most"] m__law_bottles f__law_bottles d__law_bottles) {f__law_take : Addr} {d__law_take : FuncData} (k__law_take : Kn P w G mg base 8 "_law_take" ["_law_pot_here", "_law_far"] m__law_take f__law_take d__law_take) {f__law_odd : Addr} {d__law_odd : FuncData} (k__law_odd : Kn P w G mg base 8 "_law_odd" ["_law_pot_here"] m__law_odd f__law_odd d__law_odd) {f_Bottle : Addr} {d_Bottle___init__ : FuncData} (k_Bottle : KnC P w G mg base 7 5 "Bottle" ["self", "maker", "year", "size"] m_Bottle___init__ f_Bottle d_Bottle___init__) {f__law_written_so : Addr} {d__law_written_so : FuncData} (k__law_written_so : Kn P w G mg base 8 "_law_written_so" ["_law_thing"] m__law_written_so f__law_written_so d__law_written_so) {f__law_heard : Addr} {d__law_heard : FuncData} (k__law_heard : Kn P w G mg base 8 "_law_heard" ["_law_text", "_law_litres"] m__law_heard f__law_heard d__law_heard) {f_Bottle___repr__ : Addr} {d_Bottle___repr__ : FuncData} (ks_Bottle___repr__ : KnS P w G mg base 1 5 "__repr__" ["self"] m_Bottle___repr__ f_Bottle___repr__ d_Bottle___repr__) (kn_Bottle___repr__ : KnS P w G.dim mg base 1 5 "__repr__" ["self"] m_Bottle___repr__ f_Bottle___repr__ d_Bottle___repr__) (b_Bottle___init___3 : Bd G d_Bottle___init__ ["self", "maker", "year", "size"] [(.int 75)]) (b__law_bottles_3 : Bd G d__law_bottles ["_law_pot_here", "_law_kinds_here", "_law_most"] []) (b__law_cell_at_2 : Bd G d__law_cell_at ["_law_script", "_law_k"] []) (b__law_heard_2 : Bd G d__law_heard ["_law_text", "_law_litres"] []) (b__law_kinds_1 : Bd G d__law_kinds ["_law_pot_here"] []) (b__law_odd_1 : Bd G d__law_odd ["_law_pot_here"] []) (b__law_pot_1 : Bd G d__law_pot ["_law_cell"] []) (b__law_take_2 : Bd G d__law_take ["_law_pot_here", "_law_far"] []) (b__law_written_so_1 : Bd G d__law_written_so ["_law_thing"] []) (hSm : SmOk G.K) (hIu : IuOk G 5 6) (n_isinstance : mg "isinstance" = none) (n_len : mg "len" = none) (n_list : mg "list" = none) (n_max : mg "max" = none) (n_min : mg "min" = none) (n_range : mg "range" = none) (n_repr : mg "repr" = none) (n_tuple : mg "tuple" = none) :
    FnI P w G mg base 9 f fd ["_law_script"] m_law :=
  FnI.of F sc_law fun cdv A outer s H E c => (okSeq (okFor c (okIR1 n_range (okAPCons (okPOf (okB (ok_max c) n_max (by decide +kernel) (okAPCons (okPOf okInt) (okAPCons (okPOf (okB (ok_minD c) n_min (by decide +kernel) (okAPCons (okPOf (okB (ok_len c.toXJ) n_len (by decide +kernel) (okAPCons (okPLoc 0) okAPNil))) (okAPCons (okPOf okInt) okAPNil)))) okAPNil)))) okAPNil)) (okGNm c.toXJ 1) (okSeq (okFrz (okSet c.toXJ 2 (okShare (okCallB c k__law_pot b__law_pot_1 (okACons (okUse (okCallB c k__law_cell_at b__law_cell_at_2 (okACons (okUse (okLoc 0)) (okACons (okUse (okLoc 1)) okANil)) (lenCons (lenCons lenNil)))) okANil) (lenCons lenNil)))))
    (okSeq (okFrz (okSet c.toXJ 3 (okCallB c k__law_kinds b__law_kinds_1 (okACons (okUse (okLoc 2)) okANil) (lenCons lenNil))))
    (okOne (okFor c (okIR1 n_range (okAPCons (okPOf okInt) okAPNil)) (okGNm c.toXJ 4) (okSeq (okFrz (okSet c.toXJ 5 (okCallB c k__law_bottles b__law_bottles_3 (okACons (okUse (okLoc 2)) (okACons (okUse (okLoc 3)) (okACons (okUse (okCallB c k__law_take b__law_take_2 (okACons (okUse (okLoc 2)) (okACons (okUse okInt) okANil)) (lenCons (lenCons lenNil)))) okANil))) (lenCons (lenCons (lenCons lenNil))))))
    (okSeq (by first | exact okPar c 6 7 (okACons (okUse (okCallB c k__law_take b__law_take_2 (okACons (okUse (okLoc 2)) (okACons (okUse (ok2 (ok_add c.K) (okPOf (okB (ok_len c.toXJ) n_len (by decide +kernel) (okAPCons (okPLoc 5) okAPNil))) (okPOf okInt))) okANil)) (lenCons (lenCons lenNil)))) (okACons (okUse (okLst (okACons (okUse okNon) (okACons (okUse okStr) (okACons (okUse okInt) (okACons (okUse (okTup (okACons (okUse okStr) (okACons (okUse okInt) (okACons (okUse okInt) okANil))))) (okACons (okUse (okLst okANil)) (okACons (okUse (okCallB c k__law_odd b__law_odd_1 (okACons (okUse (okLoc 2)) okANil) (lenCons lenNil))) okANil)))))))) okANil)) (lenCons (lenCons lenNil)) | exact (okAsg (okTup (okACons (okUse (okCallB c k__law_take b__law_take_2 (okACons (okUse (okLoc 2)) (okACons (okUse (ok2 (ok_add c.K) (okPOf (okB (ok_len c.toXJ) n_len (by decide +kernel) (okAPCons (okPLoc 5) okAPNil))) (okPOf okInt))) okANil)) (lenCons (lenCons lenNil)))) (okACons (okUse (okLst (okACons (okUse okNon) (okACons (okUse okStr) (okACons (okUse okInt) (okACons (okUse (okTup (okACons (okUse okStr) (okACons (okUse okInt) (okACons (okUse okInt) okANil))))) (okACons (okUse (okLst okANil)) (okACons (okUse (okCallB c k__law_odd b__law_odd_1 (okACons (okUse (okLoc 2)) okANil) (lenCons lenNil))) okANil)))))))) okANil))) (okGTup c (okGCons (okGNm c.toXJ 6) (okGCons (okGNm c.toXJ 7) okGNil)))))
    (okSeq (okFrz (okSet c.toXJ 8 (okIx (ok_ix c.toXJ) (okPLoc 7) (okPOf (okCallB c k__law_take b__law_take_2 (okACons (okUse (okLoc 2)) (okACons (okUse okInt) okANil)) (lenCons (lenCons lenNil)))))))
    (okSeq (okFrz (okSet c.toXJ 9 (okLst (okACons (okUse (ok2 (ok_add c.K) (okPOf (ok2 (ok_add c.K) (okPOf (okCut c.toXJ (okPLoc 5) okNoPart (okPart (okPLoc 6)))) (okPOf (okLst (okACons (okUse (okLoc 8)) okANil))))) (okPOf (okCut c.toXJ (okPLoc 5) (okPart (okPLoc 6)) okNoPart)))) (okACons (okUse (okBT (ok_tuple c.toXJ) n_tuple (by decide +kernel) (okAPCons (okPLoc 5) okAPNil))) (okACons (okUse (okDicN 5)) (okACons (okUse okNon) (okACons (okUse okStr) (okACons (okUse (okLst (okACons (okUse (okLoc 5)) okANil))) (okACons (okUse (okMakeB (w := wayI) c k_Bottle b_Bottle___init___3 (okACons (okUse okStr) (okACons (okUse okInt) okANil)) (lenCons (lenCons lenNil)))) (okACons (okUse (okLoc 8)) okANil)))))))))))
    (okSeq (okFor c (okISeq c.toXJ (okLoc 9)) (okGNm c.toXJ 10) (okOne (okIf (okW (okOr (okNot (okTru c.K (okPOf (okB (ok_isU c.toXJ hIu) n_isinstance (by decide +kernel) (okAPCons (okPLoc 10) (okAPCons (okPOf (okTy n_list (by decide +kernel))) okAPNil)))))) (okOr1 (okCmT (ok_neM c.toXJ) (okPLoc 10) (okPOf (okLst okANil)))))) (okSeq (okFrz (okSet c.toXJ 11 (okBU (ok_reprN c hSm ks_Bottle___repr__ kn_Bottle___repr__ (by omega)) n_repr (by decide +kernel) (okACons (okUse (okLoc 10)) okANil))))
    (okOne (okIf (okW (okOr (okCmT (ok_ne c.toXJ) (okPOf (okCallB c k__law_written_so b__law_written_so_1 (okACons (okUse (okLoc 10)) okANil) (lenCons lenNil))) (okPOf (okTup (okACons (okUse okStr) okANil)))) (okOr1 (okCmT (ok_ne c.toXJ) (okPOf (okBU (ok_reprN c hSm ks_Bottle___repr__ kn_Bottle___repr__ (by omega)) n_repr (by decide +kernel) (okACons (okUse (okLoc 10)) okANil))) (okPLoc 11))))) (okOne (okRet okBl)) okNil))) okNil)))
    (okSeq (okFor c (okISeq c.toXJ (okLst (okACons (okUse okInt) (okACons (okUse okInt) (okACons (okUse okInt) (okACons (okUse okInt) (okACons (okUse okInt) (okACons (okUse okBl) (okACons (okUse okNon) (okACons (okUse okStr) (okACons (okUse (okTup (okACons (okUse okInt) okANil))) (okACons (okUse (ok2 ok_pow (okPOf okInt) (okPOf okInt))) (okACons (okUse (okLoc 8)) okANil))))))))))))) (okGNm c.toXJ 12) (okOne (okFor c (okISeq c.toXJ (okLst (okACons (okUse okStr) (okACons (okUse okStr) (okACons (okUse okNon) (okACons (okUse (okLoc 8)) okANil)))))) (okGNm c.toXJ 13) (okOne (okIf (okCmT (ok_ne c.toXJ) (okPOf (okCallB c k__law_heard b__law_heard_2 (okACons (okUse (okLoc 13)) (okACons (okUse (okLoc 12)) okANil)) (lenCons (lenCons lenNil)))) (okPOf (okTup (okACons (okUse okStr) okANil)))) (okOne (okRet okBl)) okNil)))))
    (okOne (okFor c (okISeq c.toXJ (okLst (okACons (okUse okNon) (okACons (okUse okInt) (okACons (okUse (okLst (okACons (okUse okStr) okANil))) (okACons (okUse (okTup (okACons (okUse okStr) okANil))) (okACons (okUse okDic0) (okACons (okUse (okMakeB (w := wayI) c k_Bottle b_Bottle___init___3 (okACons (okUse okStr) (okACons (okUse okInt) okANil)) (lenCons (lenCons lenNil)))) (okACons (okUse (okLoc 5)) okANil))))))))) (okGNm c.toXJ 13) (okOne (okIf (okCmT (ok_ne c.toXJ) (okPOf (okCallB c k__law_heard b__law_heard_2 (okACons (okUse (okLoc 13)) (okACons (okUse (okIx (ok_ix c.toXJ) (okPOf (okLst (okACons (okUse okInt) (okACons (okUse okInt) (okACons (okUse okInt) okANil))))) (okPOf (okCallB c k__law_take b__law_take_2 (okACons (okUse (okLoc 2)) (okACons (okUse okInt) okANil)) (lenCons (lenCons lenNil)))))) okANil)) (lenCons (lenCons lenNil)))) (okPOf (okTup (okACons (okUse okStr) (okACons (okUse okInt) okANil))))) (okOne (okRet okBl)) okNil)))))))))))))))
    (okOne (okRet okBl)))
/-! ### the head -/
def dd_NoText___init__ : He.DefD := ⟨("NoText", some "__init__"), "__init__", "NoText.__init__", defArgs st_NoText___init__, defBody st_NoText___init__, defScope st_NoText___init__, [.int 0], []⟩
def dd_is_whole : He.DefD := ⟨("is_whole", none), "is_whole", "is_whole", defArgs st_is_whole, defBody st_is_whole, defScope st_is_whole, [], []⟩
def dd_is_within : He.DefD := ⟨("is_within", none), "is_within", "is_within", defArgs st_is_within, defBody st_is_within, defScope st_is_within, [], []⟩
def dd_is_word : He.DefD := ⟨("is_word", none), "is_word", "is_word", defArgs st_is_word, defBody st_is_word, defScope st_is_word, [.int 1], []⟩
def dd_is_size : He.DefD := ⟨("is_size", none), "is_size", "is_size", defArgs st_is_size, defBody st_is_size, defScope st_is_size, [], []⟩
def dd_is_year : He.DefD := ⟨("is_year", none), "is_year", "is_year", defArgs st_is_year, defBody st_is_year, defScope st_is_year, [], []⟩
def dd_Bottle___init__ : He.DefD := ⟨("Bottle", some "__init__"), "__init__", "Bottle.__init__", defArgs st_Bottle___init__, defBody st_Bottle___init__, defScope st_Bottle___init__, [.int 75], []⟩
def dd_Bottle___str__ : He.DefD := ⟨("Bottle", some "__str__"), "__str__", "Bottle.__str__", defArgs st_Bottle___str__, defBody st_Bottle___str__, defScope st_Bottle___str__, [], []⟩
def dd_Bottle___repr__ : He.DefD := ⟨("Bottle", some "__repr__"), "__repr__", "Bottle.__repr__", defArgs st_Bottle___repr__, defBody st_Bottle___repr__, defScope st_Bottle___repr__, [], []⟩
def dd_is_bottle : He.DefD := ⟨("is_bottle", none), "is_bottle", "is_bottle", defArgs st_is_bottle, defBody st_is_bottle, defScope st_is_bottle, [], []⟩
def dd_are_bottles : He.DefD := ⟨("are_bottles", none), "are_bottles", "are_bottles", defArgs st_are_bottles, defBody st_are_bottles, defScope st_are_bottles, [], []⟩
def dd_written : He.DefD := ⟨("written", none), "written", "written", defArgs st_written, defBody st_written, defScope st_written, [], []⟩
def dd_number_of : He.DefD := ⟨("number_of", none), "number_of", "number_of", defArgs st_number_of, defBody st_number_of, defScope st_number_of, [], []⟩
def dd_bottle_of : He.DefD := ⟨("bottle_of", none), "bottle_of", "bottle_of", defArgs st_bottle_of, defBody st_bottle_of, defScope st_bottle_of, [], []⟩
def dd_read : He.DefD := ⟨("read", none), "read", "read", defArgs st_read, defBody st_read, defScope st_read, [.int 75], []⟩
def dd__law_cell_at : He.DefD := ⟨("_law_cell_at", none), "_law_cell_at", "_law_cell_at", defArgs st__law_cell_at, defBody st__law_cell_at, defScope st__law_cell_at, [], []⟩
def dd__law_pot : He.DefD := ⟨("_law_pot", none), "_law_pot", "_law_pot", defArgs st__law_pot, defBody st__law_pot, defScope st__law_pot, [], []⟩
def dd__law_take : He.DefD := ⟨("_law_take", none), "_law_take", "_law_take", defArgs st__law_take, defBody st__law_take, defScope st__law_take, [], []⟩
def dd__law_mixed : He.DefD := ⟨("_law_mixed", none), "_law_mixed", "_law_mixed", defArgs st__law_mixed, defBody st__law_mixed, defScope st__law_mixed, [], []⟩
def dd__law_odd : He.DefD := ⟨("_law_odd", none), "_law_odd", "_law_odd", defArgs st__law_odd, defBody st__law_odd, defScope st__law_odd, [], []⟩
def dd__law_kinds : He.DefD := ⟨("_law_kinds", none), "_law_kinds", "_law_kinds", defArgs st__law_kinds, defBody st__law_kinds, defScope st__law_kinds, [], []⟩
def dd__law_word : He.DefD := ⟨("_law_word", none), "_law_word", "_law_word", defArgs st__law_word, defBody st__law_word, defScope st__law_word, [], []⟩
def dd__law_kind_of : He.DefD := ⟨("_law_kind_of", none), "_law_kind_of", "_law_kind_of", defArgs st__law_kind_of, defBody st__law_kind_of, defScope st__law_kind_of, [], []⟩
def dd__law_bottles : He.DefD := ⟨("_law_bottles", none), "_law_bottles", "_law_bottles", defArgs st__law_bottles, defBody st__law_bottles, defScope st__law_bottles, [], []⟩
def dd__law_heard : He.DefD := ⟨("_law_heard", none), "_law_heard", "_law_heard", defArgs st__law_heard, defBody st__law_heard, defScope st__law_heard, [], []⟩
def dd__law_written_so : He.DefD := ⟨("_law_written_so", none), "_law_written_so", "_law_written_so", defArgs st__law_written_so, defBody st__law_written_so, defScope st__law_written_so, [], []⟩
def dd_law : He.DefD := ⟨("law", none), "law", "law", defArgs st_law, defBody st_law, defScope st_law, [], []⟩
def fn : List He.DefD := [dd_NoText___init__, dd_is_whole, dd_is_within, dd_is_word, dd_is_size, dd_is_year, dd_Bottle___init__, dd_Bottle___str__, dd_Bottle___repr__, dd_is_bottle, dd_are_bottles, dd_written, dd_number_of, dd_bottle_of, dd_read, dd__law_cell_at, dd__law_pot, dd__law_take, dd__law_mixed, dd__law_odd, dd__law_kinds, dd__law_word, dd__law_kind_of, dd__law_bottles, dd__law_heard, dd__law_written_so, dd_law]
def fa : List He.Fa := [.glo "is_whole", .glo "is_within", .glo "is_word", .glo "is_size", .glo "is_year", .glo "is_bottle", .glo "are_bottles", .glo "written", .glo "number_of", .glo "bottle_of", .glo "read", .glo "_law_cell_at", .glo "_law_pot", .glo "_law_take", .glo "_law_mixed", .glo "_law_odd", .glo "_law_kinds", .glo "_law_word", .glo "_law_kind_of", .glo "_law_bottles", .glo "_law_heard", .glo "_law_written_so", .glo "law", .cls "Bottle", .mkr "Bottle", .noat "Bottle" "maker", .noat "Bottle" "size", .noat "Bottle" "year", .meth "Bottle" "__str__", .meth "Bottle" "__repr__", .int "FIRST_YEAR" 1900, .int "LAST_YEAR" 2100, .int "MOST_SIGNS_bottles" 8, .int "MOST_SIGNS_lines" 2000, .int "PLAIN" 75, .str "FIGURES" ⟨#[48, 49, 50, 51, 52, 53, 54, 55, 56, 57]⟩, .str "LETTERS" ⟨#[97, 98, 99, 100, 101, 102, 103, 104, 105, 106, 107, 108, 109, 110, 111, 112, 113, 114, 115, 116, 117, 118, 119, 120, 121, 122]⟩, .glo "Bottle", .glo "CellarError", .glo "Full", .glo "Gone", .glo "HereError", .glo "Kept", .glo "NoBottle", .glo "NoBottles", .glo "NoDeed", .glo "NoHold", .glo "NoLine", .glo "NoMaker", .glo "NoMonth", .glo "NoNumber", .glo "NoPlace", .glo "NoRooms", .glo "NoSet", .glo "NoSize", .glo "NoText", .glo "NoWho", .glo "NoWishes", .glo "NoYear", .glo "TooMany", .glo "SIZES_bottles", .glo "SIZES_lines", .free "LookupError", .free "ValueError", .free "all", .free "bool", .free "enumerate", .free "int", .free "isinstance", .free "len", .free "list", .free "max", .free "min", .free "range", .free "repr", .free "str", .free "tuple"]
abbrev gOf (K : PySem.W.Frag) : Ga := gaY clsNames fnNames tabNames fldNames K
def xsL : List (PySem.W.Frag → Bool) := [excFactH gOf nX [0, 1, 3, 4] mroT ksT "CellarError" subT, smB, xfFact gOf nX "fate", xfFact gOf nX "line", xfFact gOf nX "many", xfFact gOf nX "most", xfFact gOf nX "number", xfFact gOf nX "others", xfFact gOf nX "room", xfFact gOf nX "shelf", keFact gOf 2 [2] "NoText", iuFact gOf 5 6, tupC gOf "SIZES_bottles" [(.int 37), (.int 75), (.int 150)], tupC gOf "SIZES_lines" [(.int 37), (.int 75), (.int 150)]]
def tsL : List TabS := []
theorem facts {P : Program} {w : World} {K : PySem.W.Frag} {h : Heap} {mg : Str → Option Value} {f : Addr} (X : K.In h) (Gn : h.Ns mainGlobals mg) (hfa : mg ("law" : Str) = some (.ref f)) (cX : SaysY fa fn xsL tsL w K) :
    ∃ fd : FuncData, (∀ (s : Shared) (v : Value), BindsTo s fd ⟨[v], []⟩ [("_law_script", v)]) ∧ ∀ base : Heap, K.In base → base.Ns mainGlobals mg → FnI P w (gOf K) mg base 9 f fd ["_law_script"] m_law := by
  have c := cX.d
  have hSm : SmOk (gOf K).K := smB_ok (cX.fact 1 rfl)
  have t_SIZES_bottles : mg "SIZES_bottles" = some (.ref (He.ga (gOf K).K "SIZES_bottles")) ∧ ∀ g H, Is (gOf K) g H (.tup [(.int 37), (.int 75), (.int 150)]) (.ref (He.ga (gOf K).K "SIZES_bottles")) := ⟨He.glo_ok X Gn (c.fact 60 (f := .glo "SIZES_bottles") rfl), tupC_ok (G := gOf) rfl (cX.fact 12 rfl)⟩
  have t_SIZES_lines : mg "SIZES_lines" = some (.ref (He.ga (gOf K).K "SIZES_lines")) ∧ ∀ g H, Is (gOf K) g H (.tup [(.int 37), (.int 75), (.int 150)]) (.ref (He.ga (gOf K).K "SIZES_lines")) := ⟨He.glo_ok X Gn (c.fact 61 (f := .glo "SIZES_lines") rfl), tupC_ok (G := gOf) rfl (cX.fact 13 rfl)⟩
  obtain ⟨hX, hSub, hE⟩ := excFactH_ok (G := gOf) rfl (cX.fact 0 rfl)
  have gc_Bottle : mg "Bottle" = some (.ref ((gOf K).ca 5)) := He.glo_ok X Gn (c.fact 37 (f := .glo "Bottle") rfl)
  have gc_CellarError : mg "CellarError" = some (.ref ((gOf K).ca 6)) := He.glo_ok X Gn (c.fact 38 (f := .glo "CellarError") rfl)
  have gc_Full : mg "Full" = some (.ref ((gOf K).ca 20)) := He.glo_ok X Gn (c.fact 39 (f := .glo "Full") rfl)
  have gc_Gone : mg "Gone" = some (.ref ((gOf K).ca 21)) := He.glo_ok X Gn (c.fact 40 (f := .glo "Gone") rfl)
  have gc_HereError : mg "HereError" = some (.ref ((gOf K).ca 7)) := He.glo_ok X Gn (c.fact 41 (f := .glo "HereError") rfl)
  have gc_Kept : mg "Kept" = some (.ref ((gOf K).ca 22)) := He.glo_ok X Gn (c.fact 42 (f := .glo "Kept") rfl)
  have gc_NoBottle : mg "NoBottle" = some (.ref ((gOf K).ca 8)) := He.glo_ok X Gn (c.fact 43 (f := .glo "NoBottle") rfl)
  have gc_NoBottles : mg "NoBottles" = some (.ref ((gOf K).ca 0)) := He.glo_ok X Gn (c.fact 44 (f := .glo "NoBottles") rfl)
  have gc_NoDeed : mg "NoDeed" = some (.ref ((gOf K).ca 16)) := He.glo_ok X Gn (c.fact 45 (f := .glo "NoDeed") rfl)
  have gc_NoHold : mg "NoHold" = some (.ref ((gOf K).ca 10)) := He.glo_ok X Gn (c.fact 46 (f := .glo "NoHold") rfl)
  have gc_NoLine : mg "NoLine" = some (.ref ((gOf K).ca 18)) := He.glo_ok X Gn (c.fact 47 (f := .glo "NoLine") rfl)
  have gc_NoMaker : mg "NoMaker" = some (.ref ((gOf K).ca 3)) := He.glo_ok X Gn (c.fact 48 (f := .glo "NoMaker") rfl)
  have gc_NoMonth : mg "NoMonth" = some (.ref ((gOf K).ca 13)) := He.glo_ok X Gn (c.fact 49 (f := .glo "NoMonth") rfl)
  have gc_NoNumber : mg "NoNumber" = some (.ref ((gOf K).ca 12)) := He.glo_ok X Gn (c.fact 50 (f := .glo "NoNumber") rfl)
  have gc_NoPlace : mg "NoPlace" = some (.ref ((gOf K).ca 11)) := He.glo_ok X Gn (c.fact 51 (f := .glo "NoPlace") rfl)
  have gc_NoRooms : mg "NoRooms" = some (.ref ((gOf K).ca 9)) := He.glo_ok X Gn (c.fact 52 (f := .glo "NoRooms") rfl)
  have gc_NoSet : mg "NoSet" = some (.ref ((gOf K).ca 15)) := He.glo_ok X Gn (c.fact 53 (f := .glo "NoSet") rfl)
  have gc_NoSize : mg "NoSize" = some (.ref ((gOf K).ca 1)) := He.glo_ok X Gn (c.fact 54 (f := .glo "NoSize") rfl)
  have gc_NoText : mg "NoText" = some (.ref ((gOf K).ca 2)) := He.glo_ok X Gn (c.fact 55 (f := .glo "NoText") rfl)
  have gc_NoWho : mg "NoWho" = some (.ref ((gOf K).ca 14)) := He.glo_ok X Gn (c.fact 56 (f := .glo "NoWho") rfl)
  have gc_NoWishes : mg "NoWishes" = some (.ref ((gOf K).ca 17)) := He.glo_ok X Gn (c.fact 57 (f := .glo "NoWishes") rfl)
  have gc_NoYear : mg "NoYear" = some (.ref ((gOf K).ca 4)) := He.glo_ok X Gn (c.fact 58 (f := .glo "NoYear") rfl)
  have gc_TooMany : mg "TooMany" = some (.ref ((gOf K).ca 19)) := He.glo_ok X Gn (c.fact 59 (f := .glo "TooMany") rfl)
  have er_NoBottles : ExcR (gOf K).K ((gOf K).ca 0) := hE 0 (by decide)
  have er_NoMaker : ExcR (gOf K).K ((gOf K).ca 3) := hE 3 (by decide)
  have er_NoSize : ExcR (gOf K).K ((gOf K).ca 1) := hE 1 (by decide)
  have er_NoYear : ExcR (gOf K).K ((gOf K).ca 4) := hE 4 (by decide)
  have hIu : IuOk (gOf K) 5 6 := iuFact_ok (G := gOf) rfl (cX.fact 11 rfl)
  have fd_maker : FdOk (gOf K) 5 8 "maker" := ⟨He.cls_ok (c.fact 23 (f := .cls "Bottle") rfl), He.noat_ok (c.fact 25 (f := .noat "Bottle" "maker") rfl), rfl, gaY_inj (by decide +kernel) (by decide +kernel) (by decide +kernel)⟩
  have fd_size : FdOk (gOf K) 5 10 "size" := ⟨He.cls_ok (c.fact 23 (f := .cls "Bottle") rfl), He.noat_ok (c.fact 26 (f := .noat "Bottle" "size") rfl), rfl, gaY_inj (by decide +kernel) (by decide +kernel) (by decide +kernel)⟩
  have fd_year : FdOk (gOf K) 5 9 "year" := ⟨He.cls_ok (c.fact 23 (f := .cls "Bottle") rfl), He.noat_ok (c.fact 27 (f := .noat "Bottle" "year") rfl), rfl, gaY_inj (by decide +kernel) (by decide +kernel) (by decide +kernel)⟩
  have xf_fate : XfOk (gOf K) nX 6 "fate" := ⟨xfFact_ok (G := gOf) rfl (cX.fact 2 rfl), rfl⟩
  have xf_line : XfOk (gOf K) nX 2 "line" := ⟨xfFact_ok (G := gOf) rfl (cX.fact 3 rfl), rfl⟩
  have xf_many : XfOk (gOf K) nX 0 "many" := ⟨xfFact_ok (G := gOf) rfl (cX.fact 4 rfl), rfl⟩
  have xf_most : XfOk (gOf K) nX 1 "most" := ⟨xfFact_ok (G := gOf) rfl (cX.fact 5 rfl), rfl⟩
  have xf_number : XfOk (gOf K) nX 5 "number" := ⟨xfFact_ok (G := gOf) rfl (cX.fact 6 rfl), rfl⟩
  have xf_others : XfOk (gOf K) nX 7 "others" := ⟨xfFact_ok (G := gOf) rfl (cX.fact 7 rfl), rfl⟩
  have xf_room : XfOk (gOf K) nX 3 "room" := ⟨xfFact_ok (G := gOf) rfl (cX.fact 8 rfl), rfl⟩
  have xf_shelf : XfOk (gOf K) nX 4 "shelf" := ⟨xfFact_ok (G := gOf) rfl (cX.fact 9 rfl), rfl⟩
  obtain ⟨d_NoText___init__, F_NoText___init__⟩ := c.def_ 0 (d := dd_NoText___init__) rfl
  obtain ⟨d_is_whole, F_is_whole⟩ := c.def_ 1 (d := dd_is_whole) rfl
  have g_is_whole := He.glo_ok X Gn (c.fact 0 (f := .glo "is_whole") rfl)
  obtain ⟨d_is_within, F_is_within⟩ := c.def_ 2 (d := dd_is_within) rfl
  have g_is_within := He.glo_ok X Gn (c.fact 1 (f := .glo "is_within") rfl)
  obtain ⟨d_is_word, F_is_word⟩ := c.def_ 3 (d := dd_is_word) rfl
  have g_is_word := He.glo_ok X Gn (c.fact 2 (f := .glo "is_word") rfl)
  obtain ⟨d_is_size, F_is_size⟩ := c.def_ 4 (d := dd_is_size) rfl
  have g_is_size := He.glo_ok X Gn (c.fact 3 (f := .glo "is_size") rfl)
  obtain ⟨d_is_year, F_is_year⟩ := c.def_ 5 (d := dd_is_year) rfl
  have g_is_year := He.glo_ok X Gn (c.fact 4 (f := .glo "is_year") rfl)
  obtain ⟨d_Bottle___init__, F_Bottle___init__⟩ := c.def_ 6 (d := dd_Bottle___init__) rfl
  obtain ⟨d_Bottle___str__, F_Bottle___str__⟩ := c.def_ 7 (d := dd_Bottle___str__) rfl
  obtain ⟨d_Bottle___repr__, F_Bottle___repr__⟩ := c.def_ 8 (d := dd_Bottle___repr__) rfl
  obtain ⟨d_is_bottle, F_is_bottle⟩ := c.def_ 9 (d := dd_is_bottle) rfl
  have g_is_bottle := He.glo_ok X Gn (c.fact 5 (f := .glo "is_bottle") rfl)
  obtain ⟨d_are_bottles, F_are_bottles⟩ := c.def_ 10 (d := dd_are_bottles) rfl
  have g_are_bottles := He.glo_ok X Gn (c.fact 6 (f := .glo "are_bottles") rfl)
  obtain ⟨d_written, F_written⟩ := c.def_ 11 (d := dd_written) rfl
  have g_written := He.glo_ok X Gn (c.fact 7 (f := .glo "written") rfl)
  obtain ⟨d_number_of, F_number_of⟩ := c.def_ 12 (d := dd_number_of) rfl
  have g_number_of := He.glo_ok X Gn (c.fact 8 (f := .glo "number_of") rfl)
  obtain ⟨d_bottle_of, F_bottle_of⟩ := c.def_ 13 (d := dd_bottle_of) rfl
  have g_bottle_of := He.glo_ok X Gn (c.fact 9 (f := .glo "bottle_of") rfl)
  obtain ⟨d_read, F_read⟩ := c.def_ 14 (d := dd_read) rfl
  have g_read := He.glo_ok X Gn (c.fact 10 (f := .glo "read") rfl)
  obtain ⟨d__law_cell_at, F__law_cell_at⟩ := c.def_ 15 (d := dd__law_cell_at) rfl
  have g__law_cell_at := He.glo_ok X Gn (c.fact 11 (f := .glo "_law_cell_at") rfl)
  obtain ⟨d__law_pot, F__law_pot⟩ := c.def_ 16 (d := dd__law_pot) rfl
  have g__law_pot := He.glo_ok X Gn (c.fact 12 (f := .glo "_law_pot") rfl)
  obtain ⟨d__law_take, F__law_take⟩ := c.def_ 17 (d := dd__law_take) rfl
  have g__law_take := He.glo_ok X Gn (c.fact 13 (f := .glo "_law_take") rfl)
  obtain ⟨d__law_mixed, F__law_mixed⟩ := c.def_ 18 (d := dd__law_mixed) rfl
  have g__law_mixed := He.glo_ok X Gn (c.fact 14 (f := .glo "_law_mixed") rfl)
  obtain ⟨d__law_odd, F__law_odd⟩ := c.def_ 19 (d := dd__law_odd) rfl
  have g__law_odd := He.glo_ok X Gn (c.fact 15 (f := .glo "_law_odd") rfl)
  obtain ⟨d__law_kinds, F__law_kinds⟩ := c.def_ 20 (d := dd__law_kinds) rfl
  have g__law_kinds := He.glo_ok X Gn (c.fact 16 (f := .glo "_law_kinds") rfl)
  obtain ⟨d__law_word, F__law_word⟩ := c.def_ 21 (d := dd__law_word) rfl
  have g__law_word := He.glo_ok X Gn (c.fact 17 (f := .glo "_law_word") rfl)
  obtain ⟨d__law_kind_of, F__law_kind_of⟩ := c.def_ 22 (d := dd__law_kind_of) rfl
  have g__law_kind_of := He.glo_ok X Gn (c.fact 18 (f := .glo "_law_kind_of") rfl)
  obtain ⟨d__law_bottles, F__law_bottles⟩ := c.def_ 23 (d := dd__law_bottles) rfl
  have g__law_bottles := He.glo_ok X Gn (c.fact 19 (f := .glo "_law_bottles") rfl)
  obtain ⟨d__law_heard, F__law_heard⟩ := c.def_ 24 (d := dd__law_heard) rfl
  have g__law_heard := He.glo_ok X Gn (c.fact 20 (f := .glo "_law_heard") rfl)
  obtain ⟨d__law_written_so, F__law_written_so⟩ := c.def_ 25 (d := dd__law_written_so) rfl
  have g__law_written_so := He.glo_ok X Gn (c.fact 21 (f := .glo "_law_written_so") rfl)
  obtain ⟨d_law, F_law⟩ := c.def_ 26 (d := dd_law) rfl
  have g_law := He.glo_ok X Gn (c.fact 22 (f := .glo "law") rfl)
  have e := hfa.symm.trans g_law
  cases e
  obtain ⟨t_FIGURES, e_FIGURES⟩ := He.str_ok X Gn (c.fact 35 (f := .str "FIGURES" ⟨#[48, 49, 50, 51, 52, 53, 54, 55, 56, 57]⟩) rfl)
  have c_FIGURES : mg "FIGURES" = some (.str ⟨#[48, 49, 50, 51, 52, 53, 54, 55, 56, 57]⟩ t_FIGURES) ∧ RelV (V.str ⟨#[48, 49, 50, 51, 52, 53, 54, 55, 56, 57]⟩) (.str ⟨#[48, 49, 50, 51, 52, 53, 54, 55, 56, 57]⟩ t_FIGURES) ∧ ∀ g H, Is (gOf K) g H (.str [48, 49, 50, 51, 52, 53, 54, 55, 56, 57]) (V.str ⟨#[48, 49, 50, 51, 52, 53, 54, 55, 56, 57]⟩) := ⟨e_FIGURES, ⟨_, rfl⟩, fun _ _ => by first | (simp only [Is]; exact ⟨rfl, by rw [sizeLine_eq]; decide⟩) | (simp only [Is, true_and]; rw [sizeLine_eq]; decide)⟩
  obtain ⟨t_FIRST_YEAR, e_FIRST_YEAR⟩ := He.int_ok X Gn (c.fact 30 (f := .int "FIRST_YEAR" 1900) rfl)
  have c_FIRST_YEAR : mg "FIRST_YEAR" = some (.int 1900 t_FIRST_YEAR) ∧ RelV (V.int 1900) (.int 1900 t_FIRST_YEAR) ∧ ∀ g H, Is (gOf K) g H (.int 1900) (V.int 1900) := ⟨e_FIRST_YEAR, ⟨_, rfl⟩, fun _ _ => by simp only [Is]⟩
  obtain ⟨t_LAST_YEAR, e_LAST_YEAR⟩ := He.int_ok X Gn (c.fact 31 (f := .int "LAST_YEAR" 2100) rfl)
  have c_LAST_YEAR : mg "LAST_YEAR" = some (.int 2100 t_LAST_YEAR) ∧ RelV (V.int 2100) (.int 2100 t_LAST_YEAR) ∧ ∀ g H, Is (gOf K) g H (.int 2100) (V.int 2100) := ⟨e_LAST_YEAR, ⟨_, rfl⟩, fun _ _ => by simp only [Is]⟩
  obtain ⟨t_LETTERS, e_LETTERS⟩ := He.str_ok X Gn (c.fact 36 (f := .str "LETTERS" ⟨#[97, 98, 99, 100, 101, 102, 103, 104, 105, 106, 107, 108, 109, 110, 111, 112, 113, 114, 115, 116, 117, 118, 119, 120, 121, 122]⟩) rfl)
  have c_LETTERS : mg "LETTERS" = some (.str ⟨#[97, 98, 99, 100, 101, 102, 103, 104, 105, 106, 107, 108, 109, 110, 111, 112, 113, 114, 115, 116, 117, 118, 119, 120, 121, 122]⟩ t_LETTERS) ∧ RelV (V.str ⟨#[97, 98, 99, 100, 101, 102, 103, 104, 105, 106, 107, 108, 109, 110, 111, 112, 113, 114, 115, 116, 117, 118, 119, 120, 121, 122]⟩) (.str ⟨#[97, 98, 99, 100, 101, 102, 103, 104, 105, 106, 107, 108, 109, 110, 111, 112, 113, 114, 115, 116, 117, 118, 119, 120, 121, 122]⟩ t_LETTERS) ∧ ∀ g H, Is (gOf K) g H (.str [97, 98, 99, 100, 101, 102, 103, 104, 105, 106, 107, 108, 109, 110, 111, 112, 113, 114, 115, 116, 117, 118, 119, 120, 121, 122]) (V.str ⟨#[97, 98, 99, 100, 101, 102, 103, 104, 105, 106, 107, 108, 109, 110, 111, 112, 113, 114, 115, 116, 117, 118, 119, 120, 121, 122]⟩) := ⟨e_LETTERS, ⟨_, rfl⟩, fun _ _ => by first | (simp only [Is]; exact ⟨rfl, by rw [sizeLine_eq]; decide⟩) | (simp only [Is, true_and]; rw [sizeLine_eq]; decide)⟩
  obtain ⟨t_MOST_SIGNS_bottles, e_MOST_SIGNS_bottles⟩ := He.int_ok X Gn (c.fact 32 (f := .int "MOST_SIGNS_bottles" 8) rfl)
  have c_MOST_SIGNS_bottles : mg "MOST_SIGNS_bottles" = some (.int 8 t_MOST_SIGNS_bottles) ∧ RelV (V.int 8) (.int 8 t_MOST_SIGNS_bottles) ∧ ∀ g H, Is (gOf K) g H (.int 8) (V.int 8) := ⟨e_MOST_SIGNS_bottles, ⟨_, rfl⟩, fun _ _ => by simp only [Is]⟩
  obtain ⟨t_MOST_SIGNS_lines, e_MOST_SIGNS_lines⟩ := He.int_ok X Gn (c.fact 33 (f := .int "MOST_SIGNS_lines" 2000) rfl)
  have c_MOST_SIGNS_lines : mg "MOST_SIGNS_lines" = some (.int 2000 t_MOST_SIGNS_lines) ∧ RelV (V.int 2000) (.int 2000 t_MOST_SIGNS_lines) ∧ ∀ g H, Is (gOf K) g H (.int 2000) (V.int 2000) := ⟨e_MOST_SIGNS_lines, ⟨_, rfl⟩, fun _ _ => by simp only [Is]⟩
  obtain ⟨t_PLAIN, e_PLAIN⟩ := He.int_ok X Gn (c.fact 34 (f := .int "PLAIN" 75) rfl)
  have c_PLAIN : mg "PLAIN" = some (.int 75 t_PLAIN) ∧ RelV (V.int 75) (.int 75 t_PLAIN) ∧ ∀ g H, Is (gOf K) g H (.int 75) (V.int 75) := ⟨e_PLAIN, ⟨_, rfl⟩, fun _ _ => by simp only [Is]⟩
  have n_LookupError := He.free_ok X Gn (c.fact 62 (f := .free "LookupError") rfl)
  have n_ValueError := He.free_ok X Gn (c.fact 63 (f := .free "ValueError") rfl)
  have n_all := He.free_ok X Gn (c.fact 64 (f := .free "all") rfl)
  have n_bool := He.free_ok X Gn (c.fact 65 (f := .free "bool") rfl)
  have n_enumerate := He.free_ok X Gn (c.fact 66 (f := .free "enumerate") rfl)
  have n_int := He.free_ok X Gn (c.fact 67 (f := .free "int") rfl)
  have n_isinstance := He.free_ok X Gn (c.fact 68 (f := .free "isinstance") rfl)
  have n_len := He.free_ok X Gn (c.fact 69 (f := .free "len") rfl)
  have n_list := He.free_ok X Gn (c.fact 70 (f := .free "list") rfl)
  have n_max := He.free_ok X Gn (c.fact 71 (f := .free "max") rfl)
  have n_min := He.free_ok X Gn (c.fact 72 (f := .free "min") rfl)
  have n_range := He.free_ok X Gn (c.fact 73 (f := .free "range") rfl)
  have n_repr := He.free_ok X Gn (c.fact 74 (f := .free "repr") rfl)
  have n_str := He.free_ok X Gn (c.fact 75 (f := .free "str") rfl)
  have n_tuple := He.free_ok X Gn (c.fact 76 (f := .free "tuple") rfl)
  have b_Bottle___init___3 : Bd (gOf K) d_Bottle___init__ ["self", "maker", "year", "size"] [(.int 75)] := by
    obtain ⟨ds, h1, h2⟩ := F_Bottle___init__.binds1 (ps := ["self", "maker", "year", "size"]) 3 0 (by simp [He.DefD.dvs, dd_Bottle___init__]) rfl fun T kV doc pm an cdv ct us its h1 h2 => match us, its, h1, h2 with | [_, _, _], [_], _, _ => ⟨_, rfl, rfl⟩
    exact ⟨ds, _, h2, h1, fun _ _ => by simp [PI.IsL, PI.Is, dd_Bottle___init__, He.DefD.dvs, He.Dv.v]⟩
  have b_Bottle___init___4 : Bd (gOf K) d_Bottle___init__ ["self", "maker", "year", "size"] [] := by
    obtain ⟨ds, h1, h2⟩ := F_Bottle___init__.binds1 (ps := ["self", "maker", "year", "size"]) 4 1 (by simp [He.DefD.dvs, dd_Bottle___init__]) rfl fun T kV doc pm an cdv ct us its h1 h2 => match us, its, h1, h2 with | [_, _, _, _], [_], _, _ => ⟨_, rfl, rfl⟩
    exact ⟨ds, _, h2, h1, fun _ _ => by simp [PI.IsL, PI.Is, dd_Bottle___init__, He.DefD.dvs, He.Dv.v]⟩
  have b_NoText___init___1 : Bd (gOf K) d_NoText___init__ ["self", "line"] [(.int 0)] := by
    obtain ⟨ds, h1, h2⟩ := F_NoText___init__.binds1 (ps := ["self", "line"]) 1 0 (by simp [He.DefD.dvs, dd_NoText___init__]) rfl fun T kV doc pm an cdv ct us its h1 h2 => match us, its, h1, h2 with | [_], [_], _, _ => ⟨_, rfl, rfl⟩
    exact ⟨ds, _, h2, h1, fun _ _ => by simp [PI.IsL, PI.Is, dd_NoText___init__, He.DefD.dvs, He.Dv.v]⟩
  have b_NoText___init___2 : Bd (gOf K) d_NoText___init__ ["self", "line"] [] := by
    obtain ⟨ds, h1, h2⟩ := F_NoText___init__.binds1 (ps := ["self", "line"]) 2 1 (by simp [He.DefD.dvs, dd_NoText___init__]) rfl fun T kV doc pm an cdv ct us its h1 h2 => match us, its, h1, h2 with | [_, _], [_], _, _ => ⟨_, rfl, rfl⟩
    exact ⟨ds, _, h2, h1, fun _ _ => by simp [PI.IsL, PI.Is, dd_NoText___init__, He.DefD.dvs, He.Dv.v]⟩
  have b__law_bottles_3 : Bd (gOf K) d__law_bottles ["_law_pot_here", "_law_kinds_here", "_law_most"] [] := ⟨[], [], F__law_bottles.bindsN fun _ _ _ _ _ _ us hl => match us, hl with | [_, _, _], _ => rfl, .nil, fun _ _ => by simp [PI.IsL]⟩
  have b__law_cell_at_2 : Bd (gOf K) d__law_cell_at ["_law_script", "_law_k"] [] := ⟨[], [], F__law_cell_at.bindsN fun _ _ _ _ _ _ us hl => match us, hl with | [_, _], _ => rfl, .nil, fun _ _ => by simp [PI.IsL]⟩
  have b__law_heard_2 : Bd (gOf K) d__law_heard ["_law_text", "_law_litres"] [] := ⟨[], [], F__law_heard.bindsN fun _ _ _ _ _ _ us hl => match us, hl with | [_, _], _ => rfl, .nil, fun _ _ => by simp [PI.IsL]⟩
  have b__law_kind_of_1 : Bd (gOf K) d__law_kind_of ["_law_bottle"] [] := ⟨[], [], F__law_kind_of.bindsN fun _ _ _ _ _ _ us hl => match us, hl with | [_], _ => rfl, .nil, fun _ _ => by simp [PI.IsL]⟩
  have b__law_kinds_1 : Bd (gOf K) d__law_kinds ["_law_pot_here"] [] := ⟨[], [], F__law_kinds.bindsN fun _ _ _ _ _ _ us hl => match us, hl with | [_], _ => rfl, .nil, fun _ _ => by simp [PI.IsL]⟩
  have b__law_mixed_2 : Bd (gOf K) d__law_mixed ["_law_pot_here", "_law_some"] [] := ⟨[], [], F__law_mixed.bindsN fun _ _ _ _ _ _ us hl => match us, hl with | [_, _], _ => rfl, .nil, fun _ _ => by simp [PI.IsL]⟩
  have b__law_odd_1 : Bd (gOf K) d__law_odd ["_law_pot_here"] [] := ⟨[], [], F__law_odd.bindsN fun _ _ _ _ _ _ us hl => match us, hl with | [_], _ => rfl, .nil, fun _ _ => by simp [PI.IsL]⟩
  have b__law_pot_1 : Bd (gOf K) d__law_pot ["_law_cell"] [] := ⟨[], [], F__law_pot.bindsN fun _ _ _ _ _ _ us hl => match us, hl with | [_], _ => rfl, .nil, fun _ _ => by simp [PI.IsL]⟩
  have b__law_take_2 : Bd (gOf K) d__law_take ["_law_pot_here", "_law_far"] [] := ⟨[], [], F__law_take.bindsN fun _ _ _ _ _ _ us hl => match us, hl with | [_, _], _ => rfl, .nil, fun _ _ => by simp [PI.IsL]⟩
  have b__law_written_so_1 : Bd (gOf K) d__law_written_so ["_law_thing"] [] := ⟨[], [], F__law_written_so.bindsN fun _ _ _ _ _ _ us hl => match us, hl with | [_], _ => rfl, .nil, fun _ _ => by simp [PI.IsL]⟩
  have b_are_bottles_1 : Bd (gOf K) d_are_bottles ["thing"] [] := ⟨[], [], F_are_bottles.bindsN fun _ _ _ _ _ _ us hl => match us, hl with | [_], _ => rfl, .nil, fun _ _ => by simp [PI.IsL]⟩
  have b_bottle_of_2 : Bd (gOf K) d_bottle_of ["line", "size"] [] := ⟨[], [], F_bottle_of.bindsN fun _ _ _ _ _ _ us hl => match us, hl with | [_, _], _ => rfl, .nil, fun _ _ => by simp [PI.IsL]⟩
  have b_is_bottle_1 : Bd (gOf K) d_is_bottle ["thing"] [] := ⟨[], [], F_is_bottle.bindsN fun _ _ _ _ _ _ us hl => match us, hl with | [_], _ => rfl, .nil, fun _ _ => by simp [PI.IsL]⟩
  have b_is_size_1 : Bd (gOf K) d_is_size ["thing"] [] := ⟨[], [], F_is_size.bindsN fun _ _ _ _ _ _ us hl => match us, hl with | [_], _ => rfl, .nil, fun _ _ => by simp [PI.IsL]⟩
  have b_is_whole_1 : Bd (gOf K) d_is_whole ["thing"] [] := ⟨[], [], F_is_whole.bindsN fun _ _ _ _ _ _ us hl => match us, hl with | [_], _ => rfl, .nil, fun _ _ => by simp [PI.IsL]⟩
  have b_is_within_3 : Bd (gOf K) d_is_within ["thing", "least", "most"] [] := ⟨[], [], F_is_within.bindsN fun _ _ _ _ _ _ us hl => match us, hl with | [_, _, _], _ => rfl, .nil, fun _ _ => by simp [PI.IsL]⟩
  have b_is_word_1 : Bd (gOf K) d_is_word ["thing", "least"] [(.int 1)] := by
    obtain ⟨ds, h1, h2⟩ := F_is_word.binds1 (ps := ["thing", "least"]) 1 0 (by simp [He.DefD.dvs, dd_is_word]) rfl fun T kV doc pm an cdv ct us its h1 h2 => match us, its, h1, h2 with | [_], [_], _, _ => ⟨_, rfl, rfl⟩
    exact ⟨ds, _, h2, h1, fun _ _ => by simp [PI.IsL, PI.Is, dd_is_word, He.DefD.dvs, He.Dv.v]⟩
  have b_is_year_1 : Bd (gOf K) d_is_year ["thing"] [] := ⟨[], [], F_is_year.bindsN fun _ _ _ _ _ _ us hl => match us, hl with | [_], _ => rfl, .nil, fun _ _ => by simp [PI.IsL]⟩
  have b_number_of_2 : Bd (gOf K) d_number_of ["word", "most"] [] := ⟨[], [], F_number_of.bindsN fun _ _ _ _ _ _ us hl => match us, hl with | [_, _], _ => rfl, .nil, fun _ _ => by simp [PI.IsL]⟩
  have b_read_1 : Bd (gOf K) d_read ["text", "size"] [(.int 75)] := by
    obtain ⟨ds, h1, h2⟩ := F_read.binds1 (ps := ["text", "size"]) 1 0 (by simp [He.DefD.dvs, dd_read]) rfl fun T kV doc pm an cdv ct us its h1 h2 => match us, its, h1, h2 with | [_], [_], _, _ => ⟨_, rfl, rfl⟩
    exact ⟨ds, _, h2, h1, fun _ _ => by simp [PI.IsL, PI.Is, dd_read, He.DefD.dvs, He.Dv.v]⟩
  have w_read_1_size : KwI (gOf K) d_read ["text", "size"] 1 ["size"] [.p 0, .k 0] [(.int 75)] := by
    obtain ⟨its, h⟩ := F_read.kbindsD (ps := ["text", "size"]) 1 ["size"] (fun us its ws => pickL [.p 0, .k 0] us its ws) (by simp [He.DefD.dvs, dd_read]) (fun r1 r2 r3 => pickL_vals r1 r2 r3) fun T kV doc pm an cdv ct us its ws h1 h2 h3 => match us, its, ws, h1, h2, h3 with | [_], [_], [_], _, _, _ => ⟨_, rfl, rfl⟩
    exact ⟨_, its, h, fun _ _ => by simp [PI.IsL, PI.Is, dd_read, He.DefD.dvs, He.Dv.v]⟩
  have b_written_1 : Bd (gOf K) d_written ["bottles"] [] := ⟨[], [], F_written.bindsN fun _ _ _ _ _ _ us hl => match us, hl with | [_], _ => rfl, .nil, fun _ _ => by simp [PI.IsL]⟩
  refine ⟨d_law, fun s v => ?_, fun base _ _ => ?_⟩
  · exact FunD.bindsA (ps := ["_law_script"]) F_law (fun _ _ _ _ _ _ us hl => match us, hl with | [_], _ => rfl) s [v] rfl
  have ke_NoText : KnE P w (gOf K) mg base 2 "NoText" [2] ["self", "line"] _ d_NoText___init__ := keFact_ok (G := gOf) rfl (cX.fact 10 rfl) gc_NoText (o_NoText___init__ F_NoText___init__) (by show (["line"] : List Str).Nodup; decide +kernel) rfl
  have k_is_whole : Kn P w (gOf K) mg base 1 "is_whole" ["thing"] m_is_whole _ d_is_whole := ⟨g_is_whole, F_is_whole.kp, o_is_whole F_is_whole n_bool n_int n_isinstance⟩
  have k_is_within : Kn P w (gOf K) mg base 2 "is_within" ["thing", "least", "most"] m_is_within _ d_is_within := ⟨g_is_within, F_is_within.kp, o_is_within F_is_within (k_is_whole.mono (by omega)) b_is_whole_1⟩
  have k_is_word : Kn P w (gOf K) mg base 1 "is_word" ["thing", "least"] m_is_word _ d_is_word := ⟨g_is_word, F_is_word.kp, o_is_word F_is_word c_LETTERS c_MOST_SIGNS_bottles n_all n_isinstance n_len n_str⟩
  have k_is_size : Kn P w (gOf K) mg base 2 "is_size" ["thing"] m_is_size _ d_is_size := ⟨g_is_size, F_is_size.kp, o_is_size F_is_size (k_is_whole.mono (by omega)) b_is_whole_1 t_SIZES_bottles⟩
  have k_is_year : Kn P w (gOf K) mg base 3 "is_year" ["thing"] m_is_year _ d_is_year := ⟨g_is_year, F_is_year.kp, o_is_year F_is_year (k_is_within.mono (by omega)) b_is_within_3 c_FIRST_YEAR c_LAST_YEAR⟩
  have k_Bottle : KnC P w (gOf K) mg base 4 5 "Bottle" ["self", "maker", "year", "size"] m_Bottle___init__ _ d_Bottle___init__ := ⟨gc_Bottle, He.mkr_ok (c.fact 24 (f := .mkr "Bottle") rfl), o_Bottle___init__ F_Bottle___init__ (k_is_word.mono (by omega)) (k_is_year.mono (by omega)) (k_is_size.mono (by omega)) b_is_size_1 b_is_word_1 b_is_year_1 fd_maker fd_size fd_year gc_NoMaker gc_NoSize gc_NoYear er_NoMaker er_NoSize er_NoYear⟩
  have ks_Bottle___str__ : KnS P w (gOf K) mg base 1 5 "__str__" ["self"] m_Bottle___str__ _ d_Bottle___str__ := ⟨(He.meth_ok (c.fact 28 (f := .meth "Bottle" "__str__") rfl)).at_, (He.meth_ok (c.fact 28 (f := .meth "Bottle" "__str__") rfl)).fn, F_Bottle___str__.bindsN fun _ _ _ _ _ _ us hl => match us, hl with | [_], _ => rfl, rfl, o_Bottle___str__ F_Bottle___str__ c_PLAIN hSm fd_maker fd_size fd_year n_str⟩
  have ks_Bottle___repr__ : KnS P w (gOf K) mg base 1 5 "__repr__" ["self"] m_Bottle___repr__ _ d_Bottle___repr__ := ⟨(He.meth_ok (c.fact 29 (f := .meth "Bottle" "__repr__") rfl)).at_, (He.meth_ok (c.fact 29 (f := .meth "Bottle" "__repr__") rfl)).fn, F_Bottle___repr__.bindsN fun _ _ _ _ _ _ us hl => match us, hl with | [_], _ => rfl, rfl, o_Bottle___repr__ F_Bottle___repr__ fd_maker fd_size fd_year⟩
  have kn_Bottle___repr__ : KnS P w (gOf K).dim mg base 1 5 "__repr__" ["self"] m_Bottle___repr__ _ d_Bottle___repr__ := ⟨(He.meth_ok (c.fact 29 (f := .meth "Bottle" "__repr__") rfl)).at_, (He.meth_ok (c.fact 29 (f := .meth "Bottle" "__repr__") rfl)).fn, F_Bottle___repr__.bindsN fun _ _ _ _ _ _ us hl => match us, hl with | [_], _ => rfl, rfl, o_Bottle___repr__ (G := (gOf K).dim) F_Bottle___repr__ fd_maker.dim fd_size.dim fd_year.dim⟩
  have k_is_bottle : Kn P w (gOf K) mg base 1 "is_bottle" ["thing"] m_is_bottle _ d_is_bottle := ⟨g_is_bottle, F_is_bottle.kp, o_is_bottle F_is_bottle hIu gc_Bottle n_isinstance⟩
  have k_are_bottles : Kn P w (gOf K) mg base 2 "are_bottles" ["thing"] m_are_bottles _ d_are_bottles := ⟨g_are_bottles, F_are_bottles.kp, o_are_bottles F_are_bottles (k_is_bottle.mono (by omega)) b_is_bottle_1 hIu n_all n_isinstance n_list⟩
  have k_written : Kn P w (gOf K) mg base 4 "written" ["bottles"] m_written _ d_written := ⟨g_written, F_written.kp, o_written F_written (k_are_bottles.mono (by omega)) ks_Bottle___str__ b_are_bottles_1 hSm gc_NoBottles er_NoBottles n_str⟩
  have k_number_of : Kn P w (gOf K) mg base 1 "number_of" ["word", "most"] m_number_of _ d_number_of := ⟨g_number_of, F_number_of.kp, o_number_of F_number_of c_FIGURES n_all n_int n_len⟩
  have k_bottle_of : Kn P w (gOf K) mg base 6 "bottle_of" ["line", "size"] m_bottle_of _ d_bottle_of := ⟨g_bottle_of, F_bottle_of.kp, o_bottle_of F_bottle_of (k_number_of.mono (by omega)) (k_Bottle.mono (by omega)) b_Bottle___init___4 b_number_of_2 c_MOST_SIGNS_lines gc_CellarError hSub n_len⟩
  have k_read : Kn P w (gOf K) mg base 7 "read" ["text", "size"] m_read _ d_read := ⟨g_read, F_read.kp, o_read F_read (k_bottle_of.mono (by omega)) b_NoText___init___1 b_NoText___init___2 b_bottle_of_2 t_SIZES_lines hIu ke_NoText gc_NoSize gc_NoText er_NoSize n_bool n_enumerate n_int n_isinstance n_str⟩
  have k__law_cell_at : Kn P w (gOf K) mg base 1 "_law_cell_at" ["_law_script", "_law_k"] m__law_cell_at _ d__law_cell_at := ⟨g__law_cell_at, F__law_cell_at.kp, o__law_cell_at F__law_cell_at n_len⟩
  have k__law_pot : Kn P w (gOf K) mg base 1 "_law_pot" ["_law_cell"] m__law_pot _ d__law_pot := ⟨g__law_pot, F__law_pot.kp, o__law_pot F__law_pot n_range⟩
  have k__law_take : Kn P w (gOf K) mg base 1 "_law_take" ["_law_pot_here", "_law_far"] m__law_take _ d__law_take := ⟨g__law_take, F__law_take.kp, o__law_take F__law_take ⟩
  have k__law_mixed : Kn P w (gOf K) mg base 2 "_law_mixed" ["_law_pot_here", "_law_some"] m__law_mixed _ d__law_mixed := ⟨g__law_mixed, F__law_mixed.kp, o__law_mixed F__law_mixed (k__law_take.mono (by omega)) b__law_take_2 n_len n_list⟩
  have k__law_odd : Kn P w (gOf K) mg base 2 "_law_odd" ["_law_pot_here"] m__law_odd _ d__law_odd := ⟨g__law_odd, F__law_odd.kp, o__law_odd F__law_odd (k__law_take.mono (by omega)) b__law_take_2 n_len⟩
  have k__law_kinds : Kn P w (gOf K) mg base 3 "_law_kinds" ["_law_pot_here"] m__law_kinds _ d__law_kinds := ⟨g__law_kinds, F__law_kinds.kp, o__law_kinds F__law_kinds (k__law_mixed.mono (by omega)) (k__law_take.mono (by omega)) b__law_mixed_2 b__law_take_2 n_len n_range⟩
  have kx__law_word : KnX P w (gOf K) mg base 1 "_law_word" "_law_e" nX (hotOf m__law_word) _ d__law_word := ⟨g__law_word, F__law_word.kp, o__law_word F__law_word xf_fate xf_line xf_many xf_most xf_number xf_others xf_room xf_shelf gc_CellarError gc_Full gc_Gone gc_HereError gc_Kept gc_NoBottle gc_NoBottles gc_NoDeed gc_NoHold gc_NoLine gc_NoMaker gc_NoMonth gc_NoNumber gc_NoPlace gc_NoRooms gc_NoSet gc_NoSize gc_NoText gc_NoWho gc_NoWishes gc_NoYear gc_TooMany hX n_LookupError n_ValueError n_isinstance, F__law_word.bindsN fun _ _ _ _ _ _ us hl => match us, hl with | [_], _ => rfl⟩
  have k__law_kind_of : Kn P w (gOf K) mg base 1 "_law_kind_of" ["_law_bottle"] m__law_kind_of _ d__law_kind_of := ⟨g__law_kind_of, F__law_kind_of.kp, o__law_kind_of F__law_kind_of fd_maker fd_size fd_year⟩
  have k__law_bottles : Kn P w (gOf K) mg base 6 "_law_bottles" ["_law_pot_here", "_law_kinds_here", "_law_most"] m__law_bottles _ d__law_bottles := ⟨g__law_bottles, F__law_bottles.kp, o__law_bottles F__law_bottles (k__law_take.mono (by omega)) (k_Bottle.mono (by omega)) b_Bottle___init___4 b__law_take_2 n_len n_range⟩
  have k__law_heard : Kn P w (gOf K) mg base 8 "_law_heard" ["_law_text", "_law_litres"] m__law_heard _ d__law_heard := ⟨g__law_heard, F__law_heard.kp, o__law_heard F__law_heard ⟨kx__law_word.m, kx__law_word.kp, kx__law_word.fn.mono (by omega), kx__law_word.bd⟩ (k_read.mono (by omega)) (k__law_kind_of.mono (by omega)) b__law_kind_of_1 b_read_1 w_read_1_size hSm gc_CellarError hSub n_repr⟩
  have k__law_written_so : Kn P w (gOf K) mg base 5 "_law_written_so" ["_law_thing"] m__law_written_so _ d__law_written_so := ⟨g__law_written_so, F__law_written_so.kp, o__law_written_so F__law_written_so ⟨kx__law_word.m, kx__law_word.kp, kx__law_word.fn.mono (by omega), kx__law_word.bd⟩ (k_written.mono (by omega)) b_written_1 gc_CellarError hSub⟩
  exact o_law F_law (k__law_pot.mono (by omega)) (k__law_cell_at.mono (by omega)) (k__law_kinds.mono (by omega)) (k__law_bottles.mono (by omega)) (k__law_take.mono (by omega)) (k__law_odd.mono (by omega)) (k_Bottle.mono (by omega)) (k__law_written_so.mono (by omega)) (k__law_heard.mono (by omega)) ks_Bottle___repr__ kn_Bottle___repr__ b_Bottle___init___3 b__law_bottles_3 b__law_cell_at_2 b__law_heard_2 b__law_kinds_1 b__law_odd_1 b__law_pot_1 b__law_take_2 b__law_written_so_1 hSm hIu n_isinstance n_len n_list n_max n_min n_range n_repr n_tuple
end L73
set_option maxHeartbeats 0
namespace L73
open PySem PySem.Spec PyProof.Rows L2 PI
abbrev rowL : PySem.W.OpenRow := PySem.W.OpenLaw.row PySem.Challenge.rw_dimcellar_k73_lists_refused
abbrev hk : PySem.W.Hook := PI.hookY 5 fa fn xsL tsL
def obL (s : PySem.W.SharedT) : PI.AlY := PI.obsYG 5 fa fn xsL tsL (HandSHeadRun.getT s)
theorem obL_eq (s : PySem.W.SharedT) : obL s = hk.obs s.abs := PI.obsYG_eq (HandSHeadRun.getT_eq s)
def nm0 : List Str := ["_wall", "CellarError", "HereError", "NoMaker", "NoYear", "NoSize", "NoBottle", "NoBottles", "NoRooms", "NoHold", "NoPlace", "NoNumber", "NoMonth", "NoWho", "NoSet", "NoDeed", "NoWishes", "NoLine", "TooMany", "NoText", "Full", "Gone", "Kept", "LETTERS", "MOST_SIGNS_bottles", "FIRST_YEAR", "LAST_YEAR", "SIZES_bottles", "PLAIN", "is_whole"]
def nm1 : List Str := ["is_within", "is_word", "is_size", "is_year", "Bottle", "is_bottle", "age_of", "are_bottles", "FIGURES", "MOST_SIGNS_lines", "SIZES_lines", "written", "number_of", "bottle_of", "read", "_law_cell_at", "_law_pot", "_law_take", "_law_mixed", "_law_odd", "_law_kinds", "_law_word", "_law_kind_of", "_law_bottles", "_law_heard", "_law_written_so"]
abbrev nms : List Str := nm0 ++ nm1
theorem runL (w : World) : HandSHeadRun.RunEq rowL (PySem.W.view rowL.prog [60]) hk obL 30000 nms w := by
  intro os
  kernel_rfl
end L73
/-! PIDict: dicts with numbers as keys; sets of numbers. -/
namespace PI
open PySem
def dI (l : List (Int × D)) : List (D × D) := l.map fun p => (.int p.1, p.2)
section
variable (l : List (Int × D)) (k : Int)
@[simp] theorem keyEq_i (a b : Int) : keyEq (.int a) (.int b) = (a == b) := by simp only [keyEq]
@[simp] theorem dI_len : (dI l).length = l.length := List.length_map ..
end
/-! sets of numbers -/
/-! keys put -/
/-! ranges -/
def rangeI (lo hi : Int) : List Int := (List.range (hi - lo).toNat).map fun (i : Nat) => lo + i
theorem rangeD_I (lo hi : Int) : rangeD lo hi = lI (rangeI lo hi) := by simp [rangeD, rangeI, lI, Function.comp_def]
/-! least, greatest -/
end PI
namespace PI
open PySem
/-- a pot with a number that is left -/
def Pot (n : Nat) (M : MH) : Prop := ∃ p : Int, 0 ≤ p ∧ M[n]? = some (.lst [.int p])
theorem fPow_c (i j : Int) (h : 0 ≤ j ∧ j ≤ 1000) (h2 : -(2 ^ 63) < i ∧ i < 2 ^ 64) : fPow (.int i) (.int j) = some (.val (.int (i ^ j.toNat))) := by
  have : 0 ≤ j ∧ j ≤ 1000 ∧ small i = true ∧ -(2 ^ 63) < i := ⟨h.1, h.2, by simp only [small, decide_eq_true_eq]; omega, h2.1⟩
  simp only [fPow, this, and_self, if_true, sv]
theorem atD_mem {α : Type} (xs : List α) (r : Int) (n : Nat) (hn : xs.length = n) (h : 0 ≤ r ∧ r < n) : ∃ y, atD xs r = some y ∧ y ∈ xs := atD_int xs r h.1 (by omega)
@[simp] theorem thg_i (i : Int) : (D.int i).thg = true := rfl
@[simp] theorem thg_t (xs : List D) : (D.tup xs).thg = true := rfl
@[simp] theorem thg_l (xs : List D) : (D.lst xs).thg = true := rfl
@[simp] theorem thg_s (xs : List Nat) : (D.str xs).thg = true := rfl
/-! slices -/
theorem cutD_from {α : Type} (xs : List α) (k : Nat) : cutD xs (some (k : Int)) none = xs.drop k := by
  unfold cutD cutEnd
  simp only
  rw [if_neg (by omega)]
  by_cases h : k ≤ xs.length
  · rw [show min (k : Int).toNat xs.length = k by omega]
    exact List.take_of_length_le (by rw [List.length_drop]; exact Nat.le_refl _)
  · rw [show min (k : Int).toNat xs.length = xs.length by omega, List.drop_eq_nil_of_le (Nat.le_refl _), List.drop_eq_nil_of_le (by omega)]
    simp
theorem cutD_to {α : Type} (xs : List α) (k : Nat) : cutD xs none (some (k : Int)) = xs.take k := by
  unfold cutD cutEnd
  simp only
  rw [if_neg (by omega), Nat.sub_zero, List.drop_zero]
  by_cases h : k ≤ xs.length
  · rw [show min (k : Int).toNat xs.length = k by omega]
  · rw [show min (k : Int).toNat xs.length = xs.length by omega, List.take_of_length_le (Nat.le_refl _), List.take_of_length_le (by omega)]
theorem cutD_toI {α : Type} (xs : List α) (i : Int) (h : 0 ≤ i) : cutD xs none (some i) = xs.take i.toNat := by
  have := cutD_to xs i.toNat
  rwa [Int.toNat_of_nonneg h] at this
theorem cutD_fromI {α : Type} (xs : List α) (i : Int) (h : 0 ≤ i) : cutD xs (some i) none = xs.drop i.toNat := by
  have := cutD_from xs i.toNat
  rwa [Int.toNat_of_nonneg h] at this
end PI
/-! PIStr: values with a Lean type: equality, in, index; texts: order, sets, dicts. -/
namespace PI
open PySem
/-- a type whose values are data -/
class Dm (α : Type) [DecidableEq α] where
  em : α → D
  da : α → PyData
  dat_em : ∀ a, dat (em a) = some (da a)
  plain : ∀ a, (da a).plain = true
  eqv : ∀ a b, PyData.eqv (da a) (da b) = decide (a = b)
  dep : Nat
  depth_le : ∀ a, (da a).depth ≤ dep
abbrev Tx := List Nat
instance : Dm Int where
  em := .int
  da := .int
  dat_em _ := rfl
  plain _ := rfl
  eqv a b := by simp only [PyData.eqv]; exact W.beq_decide a b
  dep := 0
  depth_le _ := Nat.le_refl _
theorem str_eq_iff (a b : Tx) : ((⟨a.toArray⟩ : Str) = ⟨b.toArray⟩) ↔ a = b := by
  constructor
  · intro h
    have := congrArg (fun s : Str => s.cps.toList) h
    simpa using this
  · intro h; rw [h]
instance : Dm Tx where
  em := .str
  da a := .str ⟨a.toArray⟩
  dat_em _ := rfl
  plain _ := rfl
  eqv a b := by
    simp only [PyData.eqv]
    rw [W.beq_decide]
    exact decide_eq_decide.mpr (str_eq_iff a b)
  dep := 0
  depth_le _ := Nat.le_refl _
/-- a tuple of items of one type -/
structure Tp (α : Type) where
  its : List α
  deriving DecidableEq
section
variable {α : Type} [DecidableEq α] [Dm α]
open Dm
theorem datL_em (xs : List α) : datL (xs.map em) = some (xs.map da) := datL_map em da xs fun x _ => dat_em x
theorem plainAll_da : ∀ xs : List α, PyData.plainAll (xs.map da) = true
  | [] => rfl
  | x :: xs => by
    rw [List.map_cons, PyData.plainAll, Dm.plain x, plainAll_da xs] <;> rfl
theorem depthAll_da : ∀ xs : List α, PyData.depthAll (xs.map da) ≤ Dm.dep α
  | [] => Nat.zero_le _
  | x :: xs => by
    rw [List.map_cons, PyData.depthAll]
    exact Nat.max_le.mpr ⟨Dm.depth_le x, depthAll_da xs⟩
theorem eqvAll_da : ∀ xs ys : List α, PyData.eqvAll (xs.map da) (ys.map da) = decide (xs = ys)
  | [], [] => by simp only [List.map_nil, PyData.eqvAll, decide_true]
  | [], _ :: _ => by simp [PyData.eqvAll]
  | _ :: _, [] => by simp [PyData.eqvAll]
  | x :: xs, y :: ys => by
    rw [List.map_cons, List.map_cons, PyData.eqvAll, Dm.eqv x y, eqvAll_da xs ys, ← Bool.decide_and]
    exact decide_eq_decide.mpr (by rw [List.cons.injEq])
instance : Dm (Tp α) where
  em t := .tup (t.its.map em)
  da t := .tuple (t.its.map da)
  dat_em t := by
    show (datL (t.its.map em)).map _ = _
    rw [datL_em] <;> rfl
  plain t := by simp only [PyData.plain]; exact plainAll_da t.its
  eqv t u := by
    simp only [PyData.eqv]
    rw [eqvAll_da]
    exact decide_eq_decide.mpr ⟨fun e => by cases t; cases u; exact congrArg Tp.mk e, fun e => by rw [e]⟩
  dep := Dm.dep α + 1
  depth_le t := by simp only [PyData.depth]; exact Nat.succ_le_succ (depthAll_da t.its)
theorem fIn_t (x : D) (ys : List D) : fIn x (.tup ys) = (dat x).bind fun p => (datL ys).bind fun qs => if inOk p qs then some (qs.any fun q => PyData.eqv q p) else none := by
  cases x <;> first | rfl | (rename_i cs; cases cs <;> first | rfl | (rename_i c cs; cases cs <;> rfl))
theorem any_da (a : α) : ∀ xs : List α, ((xs.map da).any fun q => PyData.eqv q (da a)) = decide (a ∈ xs)
  | [] => by simp
  | x :: xs => by
    rw [List.map_cons, List.any_cons, any_da a xs, Dm.eqv, ← Bool.decide_or]
    exact decide_eq_decide.mpr (by rw [List.mem_cons, eq_comm])
theorem inOk_da (a : α) (xs : List α) (h : Dm.dep α ≤ 60) : inOk (da a) (xs.map da) = true := by
  have := depthAll_da xs
  simp only [inOk, Dm.plain, plainAll_da, Bool.true_and, decide_eq_true_eq]
  omega
theorem fIn_tup (a : α) (xs : List α) (h : Dm.dep α ≤ 60) : fIn (em a) (.tup (xs.map em)) = some (decide (a ∈ xs)) := by
  rw [fIn_t, dat_em, datL_em]
  simp only [Option.bind_some, inOk_da a xs h, if_true, any_da]
end
/-! ### texts -/
def lS (ss : List Tx) : List D := ss.map fun a => .str a
@[simp] theorem lS_len (ss : List Tx) : (lS ss).length = ss.length := List.length_map ..
/-! sets of texts -/
@[simp] theorem keyEq_s (a b : Tx) : keyEq (.str a) (.str b) = (a == b) := by simp only [keyEq]
/-! dicts with texts as keys -/
def dS (l : List (Tx × D)) : List (D × D) := l.map fun p => (.str p.1, p.2)
section
variable (l : List (Tx × D)) (k : Tx)
@[simp] theorem dS_len : (dS l).length = l.length := List.length_map ..
end
end PI
/-! PIPair: pairs of a list, their counts; the least by a strict total order; orders of texts. -/
namespace PI
open PySem
/-! ### the first of the least -/
/-! ### orders of texts -/
end PI
namespace PI
open PySem
/-! dicts with two texts as a key -/
def dP (l : List ((Tx × Tx) × Int)) : List (D × D) := l.map fun p => (.tup [.str p.1.1, .str p.1.2], .int p.2)
section
variable (l : List ((Tx × Tx) × Int)) (a b : Tx)
@[simp] theorem dP_len : (dP l).length = l.length := List.length_map ..
end
end PI
namespace PI
open PySem
/-! ### tuples of texts compared -/
end PI
namespace L73
open PySem PI
theorem t_take (p far : Int) (M : MH) (n : Nat) (h : M[n]? = some (.lst [.int p])) (h1 : 0 < far) (h2 : far < 1000000000000000000000000000000) :
    m__law_take [.obj n, .int far] M = .ok (.val (.int (p % far))) (M.set n (.lst [.int (p / far)])) := by
  simp [m__law_take, h, fMod_i h1, fDiv_i h1 h2, ixD]
theorem takeP {n : Nat} {M : MH} (h : Pot n M) (far : Int) (h1 : 0 < far) (h2 : far < 1000000000000000000000000000000) :
    ∃ r M', m__law_take [.obj n, .int far] M = .ok (.val (.int r)) M' ∧ (0 ≤ r ∧ r < far) ∧ Pot n M' := by
  obtain ⟨p, hp, e⟩ := h
  refine ⟨p % far, M.set n (.lst [.int (p / far)]), t_take p far M n e h1 h2, ⟨Int.emod_nonneg _ (by omega), Int.emod_lt_of_pos _ h1⟩, p / far, Int.ediv_nonneg hp (by omega), ?_⟩
  rw [List.getElem?_set_self]
  exact (List.getElem?_eq_some_iff.mp e).1
theorem t_cell (ns : List Int) (k : Nat) (M : MH) : ∃ c, m__law_cell_at [scriptD ns, .int k] M = .ok (.val (.int c)) M := by
  unfold scriptD
  by_cases h : k < ns.length
  · exact ⟨ns[k], by simp [m__law_cell_at, h, atD_nat (ns.map D.int) k (by simpa using h)]⟩
  · exact ⟨0, by simp [m__law_cell_at, h]⟩
theorem t_pot (c : Int) (M : MH) : ∃ p, 0 ≤ p ∧ m__law_pot [.int c] M = .ok (.own (.lst [.int p])) M := by
  by_cases h : 1000000000000000000 ≤ c
  · refine ⟨c - 1000000000000000000, by omega, ?_⟩
    simp [m__law_pot, fPow_c, h]
  · obtain ⟨fl, e', m', h1, rfl, n, x, y, rfl, rfl, h2⟩ := (wp_loop (t := gNm 2) (b := l__law_pot_1)
      D.int (fun _ e m => ∃ (n : Int) (x y : Option SV), e = [some (.val (.int c)), some (.val (.int n)), x, y] ∧ m = M ∧ 0 ≤ n)
      (fun fl e m => fl = .nx ∧ ∃ (n : Int) (x y : Option SV), e = [some (.val (.int c)), some (.val (.int n)), x, y] ∧ m = M ∧ 0 ≤ n)
      (fun j rest e m => by
        rintro ⟨n, x, y, rfl, rfl, hn⟩
        have k1 := Int.emod_nonneg ((c % 2147483629 + 7919 * j + 1) * 48271) (show (2147483647 : Int) ≠ 0 by decide)
        have k2 := Int.emod_lt_of_pos ((c % 2147483629 + 7919 * j + 1) * 48271) (show (0 : Int) < 2147483647 by decide)
        have k3 := fMul_l (i := (c % 2147483629 + 7919 * j + 1) * 48271 % 2147483647) (j := (c % 2147483629 + 7919 * j + 1) * 48271 % 2147483647) (by omega)
        have k4 := Int.emod_nonneg ((c % 2147483629 + 7919 * j + 1) * 48271 % 2147483647 * ((c % 2147483629 + 7919 * j + 1) * 48271 % 2147483647) + 69621 * j + 7) (show (2147483587 : Int) ≠ 0 by decide)
        simp [l__law_pot_1, fMod_i, fMul_l (i := 7919), fMul_l (i := 69621), fMul_r (j := 48271), fMul_r (j := 2147483587), k3]
        omega)
      (fun e m h => ⟨rfl, h⟩)
      (rangeI 0 64) [some (.val (.int c)), some (.val (.int 0)), none, none] M ⟨0, none, none, rfl, rfl, by omega⟩).ex
    refine ⟨n, h2, ?_⟩
    simp [m__law_pot, fPow_c, h, rangeD_I, lI]
    rw [h1]
    simp
end L73
/-! PIThing: things of any kind that a law draws: no objects, whole numbers below a bound. -/
namespace PI
open PySem
mutual
def D.okB (b : Nat) : D → Bool
  | .non => true
  | .bl _ => true
  | .int i => decide (i.natAbs < b)
  | .str cs => cs.all fun c => decide (c < 16 ^ 8)
  | .tup xs => okBLs b xs
  | .lst xs => okBLs b xs
  | .dic kvs => okBKv b kvs
  | _ => false
def okBLs (b : Nat) : List D → Bool
  | [] => true
  | x :: xs => x.okB b && okBLs b xs
def okBKv (b : Nat) : List (D × D) → Bool
  | [] => true
  | (k, v) :: r => k.flatKey && k.okB b && v.okB b && okBKv b r
end
theorem okBL_iff {b : Nat} : ∀ {xs : List D}, okBLs b xs = true ↔ ∀ x ∈ xs, x.okB b = true
  | [] => by simp [okBLs]
  | x :: xs => by simp only [okBLs, Bool.and_eq_true, okBL_iff, List.mem_cons, forall_eq_or_imp]
mutual
theorem okB_rp {b : Nat} (hb : b ≤ 10 ^ 44) : ∀ {d : D}, d.okB b = true → d.rp = true
  | .non, _ => rfl
  | .bl _, _ => rfl
  | .int i, h => by
    simp only [D.okB, decide_eq_true_eq] at h
    simp only [D.rp, decide_eq_true_eq]
    omega
  | .str _, h => h
  | .tup xs, h => okBL_rp hb (xs := xs) h
  | .lst xs, h => okBL_rp hb (xs := xs) h
  | .dic kvs, h => okBK_rp hb (kvs := kvs) h
theorem okBL_rp {b : Nat} (hb : b ≤ 10 ^ 44) : ∀ {xs : List D}, okBLs b xs = true → rpL xs = true
  | [], _ => rfl
  | x :: xs, h => by
    simp only [okBLs, Bool.and_eq_true] at h
    simp only [rpL, Bool.and_eq_true]
    exact ⟨okB_rp hb h.1, okBL_rp hb h.2⟩
theorem okBK_rp {b : Nat} (hb : b ≤ 10 ^ 44) : ∀ {kvs : List (D × D)}, okBKv b kvs = true → rpK kvs = true
  | [], _ => rfl
  | (k, v) :: r, h => by
    simp only [okBKv, Bool.and_eq_true] at h
    simp only [rpK, Bool.and_eq_true]
    exact ⟨⟨⟨h.1.1.1, okB_rp hb h.1.1.2⟩, okB_rp hb h.1.2⟩, okBK_rp hb h.2⟩
end
theorem okBK_flat {b : Nat} : ∀ {kvs : List (D × D)}, okBKv b kvs = true → kvs.all (fun p => p.1.flatKey) = true
  | [], _ => rfl
  | (k, v) :: r, h => by
    simp only [okBKv, Bool.and_eq_true] at h
    rw [List.all_cons, Bool.and_eq_true]
    exact ⟨h.1.1.1, okBK_flat h.2⟩
theorem okB_thg {b : Nat} {d : D} (h : d.okB b = true) : d.thg = true := by
  cases d with
  | dic kvs =>
    have := okBK_flat (kvs := kvs) h
    simp only [D.thg, D.kd, tyD, this, if_true, D.noObj, Option.isSome, Bool.and_self]
  | _ => first | rfl | cases h
theorem okB_tupw {b : Nat} {d : D} (h : d.okB b = true) : ∀ l, d ≠ .tupw l := fun l e => by subst e; cases h
theorem okB_lst {b : Nat} {ds : List D} : (D.lst ds).okB b = true ↔ ∀ x ∈ ds, x.okB b = true := okBL_iff
/-! weights, depths -/
theorem rpOkA_of {b : Nat} {d : D} (h : d.okB b = true) (hb : b ≤ 10 ^ 44) (hw : d.wt ≤ 20000) (hd : d.dp ≤ 60) : d.rpOkA = true := by
  simp only [D.rpOkA, okB_rp hb h, Bool.true_and, Bool.and_eq_true, decide_eq_true_eq]
  exact ⟨hw, hd⟩
theorem repr_okB {b : Nat} {d : D} (h : d.okB b = true) (hb : b ≤ 10 ^ 44) (hw : d.wt ≤ 20000) (hd : d.dp ≤ 60) : fReprA [d] = some (.val (.str (textOf d))) := fReprA_of (rpOkA_of h hb hw hd) (okB_tupw h)
end PI
/-! PIOpt: whole numbers or None, as data; orders of some things. -/
namespace PI
open PySem
def optD : Option Int → D
  | none => .non
  | some i => .int i
instance : Dm (Option Int) where
  em := optD
  da
    | none => .none
    | some i => .int i
  dat_em a := by cases a <;> rfl
  plain a := by cases a <;> rfl
  eqv a b := by
    cases a <;> cases b
    · rfl
    · rfl
    · rfl
    · rename_i x y
      simp only [PyData.eqv, Option.some.injEq]
      exact W.beq_decide x y
  dep := 0
  depth_le a := by cases a <;> exact Nat.le_refl _
def oL (K : List (Option Int)) : List D := K.map optD
@[simp] theorem oL_len (K : List (Option Int)) : (oL K).length = K.length := List.length_map ..
theorem fIn_iT (a : Int) (L : List Int) : fIn (.int a) (.tup (lI L)) = some (decide (a ∈ L)) := by
  refine (fIn_tup (α := Int) a L (by decide)).trans ?_
  congr
/-! ### orders of some numbers -/
end PI
/-! PIEvD: exceptions with fields, handlers without a name, numbers out of texts, texts cut: run by simp. -/
namespace PI
open PySem
section
variable (e : PI.Env) (m : MH)
@[simp] theorem ev_raiseF (c : Nat) (fl : List Nat) (dd : List D) (es : EM (List D)) : sRaiseF c fl dd es e m = (es e m).bind fun ds e m => .err ⟨c, fl.zip (ds ++ dd)⟩ e m := rfl
@[simp] theorem ev_tryN (n : Nat) (sub : Nat → Bool) (d : D) (b : EM Fl) : sTryN n sub d b e m = tryN n sub d (b e m) := rfl
@[simp] theorem tryN_ok (n : Nat) (sub : Nat → Bool) (d : D) (fl : Fl) : tryN n sub d (.ok fl e m) = .ok fl e m := rfl
end
@[simp] theorem fIntT_i (i : Int) : fIntT [.int i] = some (.val (.int i)) := rfl
@[simp] theorem fIntT_b (b : Bool) : fIntT [.bl b] = some (.val (.int (if b then 1 else 0))) := rfl
end PI
namespace L73
open PySem PI
theorem ixD_in (n : Nat) (r : Int) (h : 0 ≤ r ∧ r < n) : ixD n r = some r.toNat := by
  unfold ixD
  rw [if_pos h.1, if_pos h.2]
theorem erase_perm {α : Type} : ∀ (l : List α) (i : Nat) (h : i < l.length), (l[i] :: l.eraseIdx i).Perm l
  | x :: l, 0, _ => by simp
  | x :: l, i + 1, h => by
    have := erase_perm l i (by simpa using h)
    simp only [List.getElem_cons_succ, List.eraseIdx_cons_succ]
    exact (List.Perm.swap ..).trans (this.cons x)
/-- mixed: the same things in another order -/
theorem u_mixed {n : Nat} {M : MH} (hp : Pot n M) (xs : List D) (hl : xs.length ≤ 1000) : ∃ ys M', m__law_mixed [.obj n, .lst xs] M = .ok (.own (.lst ys)) M' ∧ ys.Perm xs ∧ Pot n M' := by
  have key : Wp (eLc (gNm 3) (itSeq (eLoc 1)) tYes (eUse (eMut .list mPop (pLoc 2) (eCons (eUse (eCallD m__law_take [] (eCons (eUse (eLoc 0)) (eCons (eUse (eB fLen (eCons (pLoc 2) eNil))) eNil)))) eNil))) [3]
      [some (.val (.obj n)), some (.val (.lst xs)), some (.own (.lst xs)), none] M) fun s e m => ∃ ys, s = .own (.lst ys) ∧ ys.Perm xs ∧ Pot n m := by
    refine wp_lc (L := xs) (fun d => d) (fun rest acc e m => ∃ left z, e = [some (.val (.obj n)), some (.val (.lst xs)), some (.own (.lst left)), z] ∧ Pot n m ∧ left.length = rest.length ∧ left.length ≤ 1000 ∧ (acc ++ left).Perm xs) (by simp) (by simp [notOwn])
      ⟨xs, none, rfl, hp, rfl, hl, by simp⟩ (fun a rest acc e m => ?_) (fun acc e m => ?_)
    · rintro ⟨left, z, rfl, hp, h1, h2, h3⟩
      simp only [List.length_cons] at h1
      obtain ⟨r, M', k1, k2, k3⟩ := takeP hp left.length (by omega) (by omega)
      have hr : r.toNat < left.length := by omega
      have hpop : mPop (.lst left) [.int r] = some (left[r.toNat], .lst (left.eraseIdx r.toNat)) := by
        simp [mPop, ixD_in _ _ k2, hr]
      have hperm : (left[r.toNat] :: left.eraseIdx r.toNat).Perm left := erase_perm left _ hr
      simp [k1, hpop]
      refine ⟨k3, ?_, ?_, ?_⟩
      · rw [List.length_eraseIdx_of_lt hr]; omega
      · rw [List.length_eraseIdx_of_lt hr]; omega
      · refine List.Perm.trans ?_ h3
        exact hperm.append_left acc
    · rintro ⟨left, z, rfl, hp, h1, h2, h3⟩
      obtain rfl : left = [] := List.eq_nil_of_length_eq_zero h1
      exact ⟨acc, rfl, by simpa using h3, hp⟩
  obtain ⟨s, e', m', h1, ys, rfl, h2, h3⟩ := key.ex
  refine ⟨ys, m', ?_, h2, h3⟩
  have lx : fListX [.lst xs] = some (.own (.lst xs)) := rfl
  simp [m__law_mixed, lx]
  rw [h1]
  simp
/-! texts joined -/
end L73
namespace L73
open PySem PI
/-! the text of a number -/
noncomputable def strI (i : Int) : Tx := textOf (.int i)
theorem rp_int {i : Int} (h : i.natAbs < 10 ^ 44) : (D.int i).rpOkA = true := by
  have h2 : (D.int i).wt ≤ 150 := by
    simp only [D.wt]
    split <;> omega
  have h3 : (D.int i).dp = 0 := rfl
  simp only [D.rpOkA, D.rp, h, h3, decide_true, Bool.true_and, Bool.and_eq_true, decide_eq_true_eq]
  omega
theorem str_strI {i : Int} (h : i.natAbs < 10 ^ 44) : fStrA [.int i] = some (.val (.str (strI i))) := by
  rw [fStrA_int, fReprA_of (rp_int h) (fun l e => nomatch e)]
  rfl
theorem strI_37 : strI 37 = [51, 55] := by kernel_rfl
theorem strI_75 : strI 75 = [55, 53] := by kernel_rfl
theorem strI_150 : strI 150 = [49, 53, 48] := by kernel_rfl
theorem strI_len4 (k : Nat) (h : k < 201) : (strI (1900 + (k : Nat))).length ≤ 4 := by
  have : ∀ k : Fin 201, (strI (1900 + ((k : Nat) : Int))).length ≤ 4 := by decide +kernel
  exact this ⟨k, h⟩
theorem strI_year {y : Int} (h : 1900 ≤ y ∧ y ≤ 2100) : (strI y).length ≤ 4 := by
  have := strI_len4 (y - 1900).toNat (by omega)
  rwa [show 1900 + (((y - 1900).toNat : Nat) : Int) = y by omega] at this
end L73
set_option maxHeartbeats 1000000
namespace L73
open PySem PI
noncomputable section
def mkL : List Tx := [[97], [98, 111], [99, 121], [122, 122, 122, 122, 122, 122, 122, 122], [109]]
def mkOk (w : Tx) : Prop := (1 ≤ w.length ∧ w.length ≤ 8 ∧ ∀ c ∈ w, 97 ≤ c ∧ c ≤ 122) ∧ textOf (.str w) = [39] ++ w ++ [39]
theorem mk_ok : ∀ w ∈ mkL, mkOk w := by
  intro w hw
  simp only [mkL, List.mem_cons, List.not_mem_nil, or_false] at hw
  rcases hw with rfl | rfl | rfl | rfl | rfl <;> exact ⟨by decide, by kernel_rfl⟩
def kinOk (p : Tx × Int × Int) : Prop := mkOk p.1 ∧ (1900 ≤ p.2.1 ∧ p.2.1 ≤ 2100) ∧ (p.2.2 = 37 ∨ p.2.2 = 75 ∨ p.2.2 = 150)
def kinD (p : Tx × Int × Int) : D := .tup [.str p.1, .int p.2.1, .int p.2.2]
theorem u_kinds {n : Nat} {M : MH} (hp : Pot n M) : ∃ (ks : List (Tx × Int × Int)) (M' : MH), m__law_kinds [.obj n] M = .ok (.own (.lst (ks.map kinD))) M' ∧ (∀ p ∈ ks, kinOk p) ∧ (1 ≤ ks.length ∧ ks.length ≤ 6) ∧ Pot n M' := by
  obtain ⟨ys, M1, a1, a2, p1⟩ := u_mixed hp (lS mkL) (by decide)
  obtain ⟨r, M2, b1, b2, p2⟩ := takeP p1 3 (by decide) (by decide)
  obtain ⟨q, M3, c1, c2, p3⟩ := takeP p2 6 (by decide) (by decide)
  have hl : ys.length = 5 := a2.length_eq
  have hc : cutD ys none (some (1 + r)) = ys.take (1 + r).toNat := cutD_toI ys (1 + r) (by omega)
  have hcl : 1 ≤ (ys.take (1 + r).toNat).length ∧ (ys.take (1 + r).toNat).length ≤ 5 := by
    rw [List.length_take, hl]
    omega
  have hm : ∀ d ∈ ys.take (1 + r).toNat, ∃ w, d = .str w ∧ mkOk w := fun d hd => by
    have := a2.mem_iff.mp (List.mem_of_mem_take hd)
    obtain ⟨w, hw, rfl⟩ := List.mem_map.mp this
    exact ⟨w, rfl, mk_ok w hw⟩
  generalize ys.take (1 + r).toNat = ms at hc hcl hm
  have key := wp_loop (t := gNm 3) (b := l__law_kinds_1) D.int
    (fun (rest : List Int) e m => ∃ (ks : List (Tx × Int × Int)) (x3 x4 : Option SV), e = [some (.val (.obj n)), some (.val (.lst ms)), some (.own (.lst (ks.map kinD))), x3, x4] ∧ Pot n m ∧ (∀ p ∈ ks, kinOk p) ∧ ks.length + rest.length = (rangeI 0 (1 + q)).length)
    (fun fl e m => fl = .nx ∧ ∃ (ks : List (Tx × Int × Int)) (x3 x4 : Option SV), e = [some (.val (.obj n)), some (.val (.lst ms)), some (.own (.lst (ks.map kinD))), x3, x4] ∧ Pot n m ∧ (∀ p ∈ ks, kinOk p) ∧ ks.length = (rangeI 0 (1 + q)).length)
    (fun i rest e m => by
      rintro ⟨ks, x3, x4, rfl, hp, hk, hlen⟩
      simp only [List.length_cons] at hlen
      have hrl : (rangeI 0 (1 + q)).length ≤ 6 := by simp [rangeI]; omega
      obtain ⟨r1, M1, d1, d2, p1⟩ := takeP hp 4 (by decide) (by decide)
      obtain ⟨r2, M2, e1, e2', p2⟩ := takeP p1 201 (by decide) (by decide)
      obtain ⟨r3, M3, f1, f2, p3⟩ := takeP p2 4 (by decide) (by decide)
      obtain ⟨r4, M4, g1, g2, p4⟩ := takeP p3 ms.length (by omega) (by omega)
      obtain ⟨r5, M5, h1, h2, p5⟩ := takeP p4 4 (by decide) (by decide)
      obtain ⟨y, i1, i2⟩ := atD_mem [D.int 1900, .int 2100, .int (1950 + r1), .int (1900 + r2)] r3 4 rfl f2
      obtain ⟨z, j1, j2⟩ := atD_mem [D.int 75, .int 37, .int 150, .int 75] r5 4 rfl h2
      obtain ⟨w', k1, k2⟩ := atD_mem ms r4 ms.length rfl g2
      obtain ⟨w, rfl, hw⟩ := hm w' k2
      obtain ⟨yi, rfl, hy⟩ : ∃ yi, y = .int yi ∧ 1900 ≤ yi ∧ yi ≤ 2100 := by
        simp only [List.mem_cons, List.not_mem_nil, or_false] at i2
        rcases i2 with rfl | rfl | rfl | rfl <;> exact ⟨_, rfl, by omega, by omega⟩
      obtain ⟨zi, rfl, hz⟩ : ∃ zi, z = .int zi ∧ (zi = 37 ∨ zi = 75 ∨ zi = 150) := by
        simp only [List.mem_cons, List.not_mem_nil, or_false] at j2
        rcases j2 with rfl | rfl | rfl | rfl <;> exact ⟨_, rfl, by omega⟩
      have ap : ∀ A : List D, A.length ≤ 10 → mAppend (.lst A) [.tup [.str w, .int yi, .int zi]] = some (.non, .lst (A ++ [.tup [.str w, .int yi, .int zi]])) := fun A hA => by
        simp [mAppend, okLen]
        omega
      have ap := ap (ks.map kinD) (by simp; omega)
      generalize hK : loopI _ _ = K
      simp [l__law_kinds_1, d1, e1, f1, i1, g1, k1, h1, j1, ap]
      subst hK
      refine ⟨ks ++ [(w, yi, zi)], some (.val (.int i)), some (.val (.int yi)), by simp [kinD], p5, fun p hp => ?_, by simp; omega⟩
      rcases List.mem_append.mp hp with hp | hp
      · exact hk p hp
      · simp only [List.mem_singleton] at hp
        subst hp
        exact ⟨hw, hy, hz⟩)
    (fun e m => by
      rintro ⟨ks, x3, x4, rfl, hp, hk, hlen⟩
      exact ⟨rfl, ks, x3, x4, rfl, hp, hk, by simpa using hlen⟩)
    (rangeI 0 (1 + q)) [some (.val (.obj n)), some (.val (.lst ms)), some (.own (.lst [])), none, none] M3 ⟨[], none, none, rfl, p3, by simp, by simp⟩
  obtain ⟨fl, e', m', k1, rfl, ks, x3, x4, rfl, hp', hk, hlen⟩ := key.ex
  refine ⟨ks, m', ?_, hk, by rw [hlen]; simp [rangeI]; omega, hp'⟩
  have hcc : (-100000 : Int) ≤ 1 + q ∧ 1 + q ≤ 100000 := by omega
  unfold lS mkL at a1
  simp only [List.map_cons, List.map_nil] at a1
  simp [m__law_kinds, a1, b1, c1, hc, hcc, rangeD_I, lI]
  rw [k1]
  simp
end
end L73
namespace L73
open PySem PI
noncomputable section
def wholeB : D → Bool
  | .int _ => true
  | _ => false
def withinB (lo hi : Int) : D → Bool
  | .int i => decide (lo ≤ i) && decide (i ≤ hi)
  | _ => false
def abcL : List Nat := [97, 98, 99, 100, 101, 102, 103, 104, 105, 106, 107, 108, 109, 110, 111, 112, 113, 114, 115, 116, 117, 118, 119, 120, 121, 122]
def wordB (least : Nat) : D → Bool
  | .str w => decide (least ≤ w.length) && (decide (w.length ≤ 8) && w.all fun c => decide (c ∈ abcL))
  | _ => false
def sizeB : D → Bool
  | .int i => decide (i = 37) || (decide (i = 75) || decide (i = 150))
  | _ => false
theorem t_isWhole (d : D) (h : d.thg = true) (M : MH) : m_is_whole [d] M = .ok (.val (.bl (wholeB d))) M := by
  have h1 := isi_int (kd_thg h)
  have h2 := isi_bool (kd_thg h)
  have hn := fun e m => now_thg h e m
  cases d <;> simp [m_is_whole, h1, h2, hn, wholeB, D.isInt, D.isBl]
theorem t_isWithin (d : D) (h : d.thg = true) (lo hi : Int) (M : MH) : m_is_within [d, .int lo, .int hi] M = .ok (.val (.bl (withinB lo hi d))) M := by
  cases d with
  | int i =>
    by_cases h1 : lo ≤ i
    · simp [m_is_within, t_isWhole _ h, wholeB, withinB, h1]
    · simp [m_is_within, t_isWhole _ h, wholeB, withinB, h1]
  | _ => simp [m_is_within, t_isWhole _ h, wholeB, withinB]
theorem t_isYear (d : D) (h : d.thg = true) (M : MH) : m_is_year [d] M = .ok (.val (.bl (withinB 1900 2100 d))) M := by
  simp [m_is_year, t_isWithin d h]
theorem t_isSize (d : D) (h : d.thg = true) (M : MH) : m_is_size [d] M = .ok (.val (.bl (sizeB d))) M := by
  cases d with
  | int i =>
    have e : fIn (.int i) (.tup [.int 37, .int 75, .int 150]) = some (sizeB (.int i)) := by
      have := fIn_iT i [37, 75, 150]
      rw [show D.tup (lI [37, 75, 150]) = .tup [.int 37, .int 75, .int 150] from rfl] at this
      rw [this]
      simp [sizeB]
    simp [m_is_size, t_isWhole _ h, wholeB, e]
  | _ => simp [m_is_size, t_isWhole _ h, wholeB, sizeB]
theorem t_isWord (d : D) (h : d.thg = true) (n : Nat) (M : MH) : m_is_word [d, .int n] M = .ok (.val (.bl (wordB n d))) M := by
  have hi := isi_str (kd_thg h)
  have hn := fun e m => now_thg h e m
  cases d with
  | str w =>
    by_cases h1 : n ≤ w.length
    · by_cases h2 : w.length ≤ 8
      · simp [m_is_word, hi, D.isStr, show (n : Int) ≤ w.length by omega, show (w.length : Int) ≤ 8 by omega]
        rw [ev_lcA (L := w) (g := fun c => .str [c]) (f := fun c => .bl (decide (c ∈ abcL)))]
        · simp [fAll_map (fun c => decide (c ∈ abcL)) w, wordB, h1, h2]
        · simp
        · simp [notOwn]
        · intro c _
          have e : fIn (.str [c]) (.str abcL) = some (decide (c ∈ abcL)) := rfl
          unfold abcL at e
          simp [e, abcL]
      · simp [m_is_word, hi, D.isStr, show (n : Int) ≤ w.length by omega, show ¬ (w.length : Int) ≤ 8 by omega, wordB, h2]
    · simp [m_is_word, hi, D.isStr, show ¬ (n : Int) ≤ w.length by omega, wordB, h1]
  | _ =>
    all_goals simp [m_is_word, hi, hn, D.isStr, wordB]
/-! bottles -/
/-- what a bottle is made of -/
def botR (a b c : D) (M : MH) : FR := if wordB 1 a then (if withinB 1900 2100 b then (if sizeB c then .ok (.own (.ins 5 [(8, a), (9, b), (10, c)])) M else .err ⟨1, []⟩ M) else .err ⟨4, []⟩ M) else .err ⟨3, []⟩ M
theorem lim_of_word {n m : Nat} {d : D} (h : wordB n d = true) : d.lim true m = true := by
  cases d <;> first | rfl | cases h
theorem lim_of_within {lo hi : Int} {m : Nat} {d : D} (h : withinB lo hi d = true) : d.lim true m = true := by
  cases d <;> first | rfl | cases h
theorem lim_of_size {m : Nat} {d : D} (h : sizeB d = true) : d.lim true m = true := by
  cases d <;> first | rfl | cases h
theorem t_Bottle (a b c : D) (ha : a.thg = true) (hb : b.thg = true) (hc : c.thg = true) (M : MH) : m_Bottle [a, b, c] M = botR a b c M := by
  have t1 := t_isWord a ha 1 (M ++ [.ins 5 []])
  have t2 := t_isYear b hb (M ++ [.ins 5 []])
  have t3 := t_isSize c hc (M ++ [.ins 5 []])
  have e0 : ((1 : Nat) : Int) = 1 := rfl
  rw [e0] at t1
  unfold botR m_Bottle
  by_cases h1 : wordB 1 a = true
  · rw [if_pos h1]
    by_cases h2 : withinB 1900 2100 b = true
    · rw [if_pos h2]
      by_cases h3 : sizeB c = true
      · rw [if_pos h3]
        refine mkI_ok M ?_ ?_
        · simp [m_Bottle___init__, t1, t2, t3, h1, h2, h3]
        · simp [MO.lim, limF, lim_of_word h1, lim_of_within h2, lim_of_size h3]
      · rw [if_neg h3]
        refine mkI_err (o := .ins 5 []) M ?_ rfl
        simp [m_Bottle___init__, t1, t2, t3, h1, h2, h3]
    · rw [if_neg h2]
      refine mkI_err (o := .ins 5 []) M ?_ rfl
      simp [m_Bottle___init__, t1, t2, t3, h1, h2]
  · rw [if_neg h1]
    refine mkI_err (o := .ins 5 []) M ?_ rfl
    simp [m_Bottle___init__, t1, t2, t3, h1]
end
end L73
/-! PIEvE: repr of a word of small letters. -/
namespace PI
open PySem PySem.Builtin PySem.Builtin.Str PyProof.Rows
@[simp] theorem ev_tO2 (f : D → D → Option Bool) (a b : EM PV) (e : PI.Env) (m : MH) : tO2 f a b e m = (a e m).bind fun p => EM.bind b fun q => EM.bind (onlyV p) fun x => EM.bind q.now fun y => EM.lift (f x y) := rfl
@[simp] theorem ev_tO3 (f : D → D → Option Bool) (a b : EM PV) (e : PI.Env) (m : MH) : tO3 f a b e m = (a e m).bind fun p => EM.bind b fun q => EM.bind (onlyV p) fun x => EM.bind (onlyV q) fun y => EM.lift (f x y) := rfl
@[simp] theorem onlyV_v (d : D) : onlyV (.v d) = EM.pure d := rfl
@[simp] theorem ev_MI (T : Ty) (f : D → List D → Option SV) (a : EM PV) (es : EM (List D)) (e : PI.Env) (m : MH) : eMI T f a es e m = (a e m).bind fun p => EM.bind p.now fun d0 => if T.has d0 then EM.bind es fun ds => EM.bind p.now fun d => EM.lift (f d ds) else fun _ _ => .stuck := rfl
@[simp] theorem ev_BU' (f : List D → Option SV) (es : EM (List D)) (e : PI.Env) (m : MH) : eBU f es e m = (es e m).bind fun ds => EM.lift (f ds) := rfl
end PI
/-! PIRepE: things that hold instances have a repr. -/
namespace PI
open PySem
section
variable {c : Nat} {f : FT}
/-- shown by at most n signs, k levels -/
def ShN (c : Nat) (f : FT) (n k : Nat) (d : D) : Prop := ∃ t : Str, d.rpN c f = some t ∧ t.length ≤ n ∧ d.htN ≤ k
/-- the same, looked at -/
def shB (c : Nat) (f : FT) (n k : Nat) (d : D) : Bool := match d.rpN c f with
  | some t => decide (t.length ≤ n) && decide (d.htN ≤ k)
  | none => false
theorem shB_ok {n k : Nat} {d : D} (h : shB c f n k d = true) : ShN c f n k d := by
  unfold shB at h
  split at h
  · rename_i t e
    simp only [Bool.and_eq_true, decide_eq_true_eq] at h
    exact ⟨t, e, h⟩
  · cases h
theorem ShN.mono {n k m l : Nat} {d : D} (h : ShN c f n k d) (h1 : n ≤ m) (h2 : k ≤ l) : ShN c f m l d := let ⟨t, e, a, b⟩ := h; ⟨t, e, Nat.le_trans a h1, Nat.le_trans b h2⟩
theorem shL {n k : Nat} : ∀ {L : List D}, (∀ d ∈ L, ShN c f n k d) → ∃ ts, rpNL c f L = some ts ∧ ts.length = L.length ∧ (ts.map (·.length)).sum ≤ L.length * n ∧ htNL L ≤ k
  | [], _ => ⟨[], rfl, rfl, by simp, Nat.zero_le _⟩
  | d :: L, h => by
    obtain ⟨t, e1, e2, e3⟩ := h d (List.mem_cons_self ..)
    obtain ⟨ts, a1, a2, a3, a4⟩ := shL (L := L) fun x hx => h x (List.mem_cons_of_mem _ hx)
    refine ⟨t :: ts, by simp [rpNL, e1, a1], by simp [a2], ?_, ?_⟩
    · simp only [List.map_cons, List.sum_cons, List.length_cons, Nat.succ_mul]
      omega
    · simp only [htNL]
      omega
theorem ShN.lst {n k : Nat} {L : List D} (h : ∀ d ∈ L, ShN c f n k d) : ShN c f (L.length * (n + 2) + 3) (k + 1) (.lst L) := by
  obtain ⟨ts, a1, a2, a3, a4⟩ := shL h
  refine ⟨listText ts, by simp [D.rpN, a1], ?_, ?_⟩
  · have := listText_len_le ts
    rw [a2] at this
    rw [Nat.mul_add]
    omega
  · simp only [D.htN]
    omega
theorem ShN.tup {n k : Nat} {L : List D} (h : ∀ d ∈ L, ShN c f n k d) : ShN c f (L.length * (n + 2) + 3) (k + 1) (.tup L) := by
  obtain ⟨ts, a1, a2, a3, a4⟩ := shL h
  refine ⟨tupleText ts, by simp [D.rpN, a1], ?_, ?_⟩
  · have := tupleText_len_le ts
    rw [a2] at this
    rw [Nat.mul_add]
    omega
  · simp only [D.htN]
    omega
/-- a dict of one key -/
theorem ShN.dic1 {n k : Nat} {i : Int} {d : D} (hi : i.natAbs.log2 < 1920) (hl : (toString i : String).length ≤ 100) (h : ShN c f n k d) : ∃ m, ShN c f m (k + 1) (.dic [(.int i, d)]) ∧ m = n + (Str.ofString (toString i)).length + 10 := by
  obtain ⟨t, e1, e2, e3⟩ := h
  refine ⟨_, ⟨dictText [(Str.ofString (toString i)) ++ (": " : Str) ++ t], ?_, ?_, ?_⟩, rfl⟩
  · simp [D.rpN, rpNK, D.flatKey, hi, e1]
  · have := dictText_len_le [(Str.ofString (toString i)) ++ (": " : Str) ++ t]
    have e4 : ((Str.ofString (toString i)) ++ (": " : Str) ++ t).length = (Str.ofString (toString i)).length + 2 + t.length := by
      rw [strLen_append, strLen_append]; rfl
    simp only [List.map_cons, List.map_nil, List.sum_cons, List.sum_nil, List.length_cons, List.length_nil, e4] at this
    omega
  · simp only [D.htN, htNK]
    omega
theorem reprA_txt {d : D} {r : SV} (h : fReprA [d] = some r) : ∃ t, r = .val (.str t) := by
  have key : ∀ p : Option PyData, (p.bind fun p => if reprOkA p then sv (.str p.shown.cps.toList) else none) = some r → ∃ t, r = .val (.str t) := by
    intro p hp
    cases p with
    | none => cases hp
    | some p =>
      simp only [Option.bind_some] at hp
      split at hp
      · cases hp
        exact ⟨_, rfl⟩
      · cases hp
  cases d with
  | tupw xs => cases h
  | non => exact key (dat .non) h
  | bl b => exact key (dat (.bl b)) h
  | int i => exact key (dat (.int i)) h
  | str x => exact key (dat (.str x)) h
  | tup x => exact key (dat (.tup x)) h
  | lst x => exact key (dat (.lst x)) h
  | dic x => exact key (dat (.dic x)) h
  | _ => cases h
theorem reprN_box {n : Nat} {d : D} (h : ShN c f n 12 d) (hn : n ≤ 1000000) (hb : d.isBox = true) : ∃ t, fReprN c f [d] = some (.val (.str t)) := by
  unfold fReprN
  cases e : fReprO c f [d] with
  | some r =>
    have e' : fReprA [d] = some r := by
      rw [← e]
      cases d <;> first | rfl | cases hb
    obtain ⟨t, rfl⟩ := reprA_txt e'
    exact ⟨t, rfl⟩
  | none =>
    obtain ⟨t, e1, e2, e3⟩ := h
    refine ⟨t.cps.toList, ?_⟩
    show (if d.isBox = true then _ else _) = _
    rw [if_pos hb, e1]
    simp only [Option.bind_some]
    rw [if_pos ⟨Nat.le_trans e2 hn, e3⟩]
theorem reprN_of {ds : List D} {r : SV} (h : fReprO c f ds = some r) : fReprN c f ds = some r := by
  unfold fReprN
  rw [h]
end
end PI
set_option maxHeartbeats 1000000
namespace L73
open PySem PI
noncomputable section
theorem mem_abcK {c : Nat} : c ∈ abcL ↔ 97 ≤ c ∧ c ≤ 122 := by
  simp only [abcL, List.mem_cons, List.not_mem_nil, or_false]
  omega
def botP (p : Tx × Int × Int) : D := .ins 5 [(8, .str p.1), (9, .int p.2.1), (10, .int p.2.2)]
theorem ev_joinS {e : PI.Env} {M : MH} : ∀ (l : List (EM (List Nat) × Tx)) (acc : Tx), (∀ q ∈ l, q.1 e M = .ok q.2 e M) → (acc ++ (l.map (·.2)).flatten).length ≤ 1000000 → eJoinS (l.map (·.1)) acc e M = .ok (.val (.str (acc ++ (l.map (·.2)).flatten))) e M
  | [], acc, _, _ => by
    show Res.ok (SV.val (D.str acc)) e M = _
    simp
  | q :: l, acc, h, hl => by
    show (q.1 e M).bind _ = _
    rw [h q (List.mem_cons_self ..)]
    simp only [List.map_cons, List.flatten_cons, bind_ok]
    simp only [List.map_cons, List.flatten_cons, List.length_append] at hl
    rw [if_pos (by simp only [List.length_append]; omega), ev_joinS l (acc ++ q.2) (fun x hx => h x (List.mem_cons_of_mem _ hx)) (by simp only [List.length_append]; omega), List.append_assoc]
def shownT (p : Tx × Int × Int) : Tx := [66, 111, 116, 116, 108, 101, 40, 39] ++ p.1 ++ [39, 44, 32] ++ strI p.2.1 ++ [44, 32] ++ strI p.2.2 ++ [41]
theorem t_repr {p : Tx × Int × Int} (h : kinOk p) (M : MH) : m_Bottle___repr__ [botP p] M = .ok (.val (.str (shownT p))) M := by
  have hw := h.1.1.2.1
  have hy := strI_year h.2.1
  have hz : (strI p.2.2).length ≤ 3 := by
    rcases h.2.2 with e | e | e <;> rw [e]
    · rw [strI_37]; decide
    · rw [strI_75]; decide
    · rw [strI_150]; decide
  have f1 : fmtRD (.str p.1) = some ([39] ++ p.1 ++ [39]) := by
    show (if _ then _ else _) = _
    rw [h.1.2, if_pos (by simp; omega)]
  have f2 : fmtD (.int p.2.1) = some (strI p.2.1) := by
    show (if _ then _ else _) = _
    have := h.2.1
    rw [if_pos ⟨by omega, by show (strI p.2.1).length ≤ _; omega⟩]
    rfl
  have f3 : fmtD (.int p.2.2) = some (strI p.2.2) := by
    show (if _ then _ else _) = _
    have := h.2.2
    rw [if_pos ⟨by omega, by show (strI p.2.2).length ≤ _; omega⟩]
    rfl
  have j := ev_joinS (e := [some (.val (botP p))]) (M := M) [(EM.pure [66, 111, 116, 116, 108, 101, 40], [66, 111, 116, 116, 108, 101, 40]), (eFmt fmtRD (eUse (e1 (fFld 5 8) (pLoc 0))), [39] ++ p.1 ++ [39]), (EM.pure [44, 32], [44, 32]), (eFmt fmtD (eUse (e1 (fFld 5 9) (pLoc 0))), strI p.2.1), (EM.pure [44, 32], [44, 32]), (eFmt fmtD (eUse (e1 (fFld 5 10) (pLoc 0))), strI p.2.2), (EM.pure [41], [41])] [] (fun q hq => by
    simp only [List.mem_cons, List.not_mem_nil, or_false] at hq
    rcases hq with rfl | rfl | rfl | rfl | rfl | rfl | rfl
    · rfl
    · simp [eFmt, botP, f1]
    · rfl
    · simp [eFmt, botP, f2]
    · rfl
    · simp [eFmt, botP, f3]
    · rfl) (by simp; omega)
  simp only [List.map_cons, List.map_nil] at j
  unfold m_Bottle___repr__
  rw [ev_mkF, if_pos (show [botP p].length = 1 from rfl)]
  show (sRet _ [some (.val (botP p))] M).fr = _
  unfold shownT
  simp [j]
theorem txt_repr {p : Tx × Int × Int} (h : kinOk p) : txtOf m_Bottle___repr__ (botP p) = some (shownT p) := by
  unfold txtOf
  rw [t_repr h []]
  rfl
theorem fReprO_ins (c : Nat) (f : FT) (c' : Nat) (fs : List (Nat × D)) : fReprO c f [.ins c' fs] = if c' = c then (txtOf f (.ins c' fs)).map fun t => .val (.str t) else none := rfl
theorem rpN_ins (c : Nat) (f : FT) (c' : Nat) (fs : List (Nat × D)) : (D.ins c' fs).rpN c f = if c' = c then (txtOf f (.ins c' fs)).map fun t => ⟨t.toArray⟩ else none := by simp only [D.rpN]
theorem repr_botP {p : Tx × Int × Int} (h : kinOk p) : fReprO 5 m_Bottle___repr__ [botP p] = some (.val (.str (shownT p))) := by
  have := txt_repr h
  unfold botP at this ⊢
  rw [fReprO_ins, this]
  rfl
@[simp] theorem ev_BU (e : PI.Env) (m : MH) (f : List D → Option SV) (es : EM (List D)) : eBU f es e m = (es e m).bind fun ds => EM.lift (f ds) := rfl
/-! what is drawn -/
theorem bot_made {p : Tx × Int × Int} (h : kinOk p) (M : MH) : m_Bottle [.str p.1, .int p.2.1, .int p.2.2] M = .ok (.own (.ins 5 [(8, .str p.1), (9, .int p.2.1), (10, .int p.2.2)])) M := by
  have t := t_Bottle (.str p.1) (.int p.2.1) (.int p.2.2) rfl rfl rfl M
  rw [t]
  have hw : wordB 1 (.str p.1) = true := by
    simp only [wordB, Bool.and_eq_true, decide_eq_true_eq, List.all_eq_true]
    exact ⟨h.1.1.1, h.1.1.2.1, fun c hc => mem_abcK.mpr (h.1.1.2.2 c hc)⟩
  have hy : withinB 1900 2100 (.int p.2.1) = true := by
    simp only [withinB, Bool.and_eq_true, decide_eq_true_eq]
    exact h.2.1
  have hq : sizeB (.int p.2.2) = true := by
    have := h.2.2
    simp only [sizeB, Bool.or_eq_true, decide_eq_true_eq]
    omega
  simp only [botR, hw, hy, hq, if_true]
theorem u_bottles {n : Nat} {M : MH} (hp : Pot n M) {ks : List (Tx × Int × Int)} (hk : ∀ p ∈ ks, kinOk p) (hl : 1 ≤ ks.length ∧ ks.length ≤ 6) {c : Int} (hc : 0 ≤ c ∧ c ≤ 15) : ∃ (ps : List (Tx × Int × Int)) (M' : MH), m__law_bottles [.obj n, .lst (ks.map kinD), .int c] M = .ok (.own (.lst (ps.map botP))) M' ∧ (∀ p ∈ ps, kinOk p) ∧ ps.length ≤ 15 ∧ Pot n M' := by
  have hcc : (-100000 : Int) ≤ c ∧ c ≤ 100000 := by omega
  have key : Wp (eLc (gNm 4) (itR1 (eCons (pLoc 2) eNil)) tYes (eUse (e2 fIx (pLoc 1) (pOf (eCallD m__law_take [] (eCons (eUse (eLoc 0)) (eCons (eUse (eB fLen (eCons (pLoc 1) eNil))) eNil)))))) [4]
      [some (.val (.obj n)), some (.val (.lst (ks.map kinD))), some (.val (.int c)), none, none] M)
      fun s e m => ∃ ps : List (Tx × Int × Int), s = .own (.lst (ps.map kinD)) ∧ e = [some (.val (.obj n)), some (.val (.lst (ks.map kinD))), some (.val (.int c)), none, none] ∧ (∀ p ∈ ps, kinOk p) ∧ ps.length ≤ 15 ∧ Pot n m := by
    refine wp_lc (L := rangeI 0 c) D.int (fun rest acc e m => ∃ (ps : List (Tx × Int × Int)) (z : Option SV), acc = ps.map kinD ∧ e = [some (.val (.obj n)), some (.val (.lst (ks.map kinD))), some (.val (.int c)), none, z] ∧ Pot n m ∧ ps.length + rest.length = (rangeI 0 c).length ∧ ∀ p ∈ ps, kinOk p)
      (by simp [hcc, rangeD_I, lI]) (by simp [notOwn]) ⟨[], none, rfl, rfl, hp, by simp, by simp⟩ (fun i rest acc e m => ?_) (fun acc e m => ?_)
    · rintro ⟨ps, z, rfl, rfl, hp, h1, h2⟩
      obtain ⟨r, M', k1, k2, k3⟩ := takeP hp ks.length (by omega) (by omega)
      obtain ⟨y, k4, k5⟩ := atD_mem (ks.map kinD) r ks.length (by simp) k2
      obtain ⟨p, hp', rfl⟩ := List.mem_map.mp k5
      simp [k1, k4]
      refine ⟨ps ++ [p], by simp, k3, by simp only [List.length_append, List.length_cons, List.length_nil] at h1 ⊢; omega, fun a b c hs => ?_⟩
      rcases List.mem_append.mp hs with hs | hs
      · exact h2 _ hs
      · rw [List.mem_singleton.mp hs]
        exact hk p hp'
    · rintro ⟨ps, z, rfl, rfl, hp, h1, h2⟩
      have : (rangeI 0 c).length = c.toNat := by simp [rangeI]
      simp only [List.length_nil] at h1
      exact ⟨ps, rfl, rfl, h2, by omega, hp⟩
  obtain ⟨s, e', m', h1, ps, rfl, rfl, h2, h3, h4⟩ := key.ex
  refine ⟨ps, m', ?_, h2, h3, h4⟩
  have lc : eLc (gNm 3) (itSeq (eLc (gNm 4) (itR1 (eCons (pLoc 2) eNil)) tYes (eUse (e2 fIx (pLoc 1) (pOf (eCallD m__law_take [] (eCons (eUse (eLoc 0)) (eCons (eUse (eB fLen (eCons (pLoc 1) eNil))) eNil)))))) [4])) tYes (eUse (eCallD m_Bottle [] (eCons (eUse (e2 fIx (pLoc 3) (pOf (eCon (.int 0))))) (eCons (eUse (e2 fIx (pLoc 3) (pOf (eCon (.int 1))))) (eCons (eUse (e2 fIx (pLoc 3) (pOf (eCon (.int 2))))) eNil))))) [3]
      [some (.val (.obj n)), some (.val (.lst (ks.map kinD))), some (.val (.int c)), none, none] M = .ok (.own (.lst (ps.map botP))) [some (.val (.obj n)), some (.val (.lst (ks.map kinD))), some (.val (.int c)), none, none] m' := by
    refine ev_lcAG (L := ps) kinD botP ?_ (by simp [notOwn]) fun p hp => ?_
    · simp [h1]
    · have t := bot_made (h2 p hp) m'
      simp [kinD, t, botP]
  simp [m__law_bottles, lc]
theorem sh_bot {p : Tx × Int × Int} (h : kinOk p) : ShN 5 m_Bottle___repr__ 40 0 (botP p) := by
  have t := txt_repr h
  unfold botP at t ⊢
  refine ⟨⟨(shownT p).toArray⟩, ?_, ?_, Nat.le_refl _⟩
  · rw [rpN_ins, if_pos rfl, t]
    rfl
  · have hw := h.1.1.2.1
    have hy := strI_year h.2.1
    have hz : (strI p.2.2).length ≤ 3 := by
      rcases h.2.2 with e | e | e <;> rw [e]
      · rw [strI_37]; decide
      · rw [strI_75]; decide
      · rw [strI_150]; decide
    show (List.toArray _).size ≤ _
    simp [shownT]
    omega
end
end L73
set_option maxHeartbeats 1000000
namespace L73
open PySem PI
noncomputable section
/-! all that is no bottle -/
def oddL : List D := [.non, .bl true, .bl false, .int (-1), .int 1000000000000000000000000000000, .str [], .str [97], .str [49], .tup [], .lst [], .dic [], .lst [.tup []], .tup [.tup []], .tup [.int 0], .lst [.int 0], .dic [(.int 0, .int 1)], .tup [.bl true, .bl true]]
def oddA : List D := [.non, .str [97, 32, 49, 57, 53, 48], .int 7, .tup [.str [97], .int 1950, .int 75], .lst []] ++ oddL
def litL : List D := [.int 0, .int 36, .int 74, .int 76, .int 149, .bl true, .non, .str [55, 53], .tup [.int 75], .int 1000000000000000000000000000000000000000]
def litA : List D := litL ++ oddA
def chkB (d : D) : Bool := d.okB (10 ^ 40) && (decide (d.wt ≤ 3000) && (decide (d.dp ≤ 5) && (decide (textOf d ≠ [55, 53]) && (!sizeB d && shB 5 m_Bottle___repr__ 100 5 d))))
theorem lit_chk : ∀ d ∈ litA, chkB d = true := by decide +kernel
structure Odd (d : D) : Prop where
  thg : d.thg = true
  rep : fReprA [d] = some (.val (.str (textOf d)))
  n75 : textOf d ≠ [55, 53]
  nsz : sizeB d = false
  sh : ShN 5 m_Bottle___repr__ 100 5 d
  el : ∀ L, d = .lst L → ∀ x ∈ L, x.thg = true
theorem lit_odd {d : D} (h : d ∈ litA) : Odd d := by
  have c := lit_chk d h
  simp only [chkB, Bool.and_eq_true, decide_eq_true_eq, Bool.not_eq_true'] at c
  exact ⟨okB_thg c.1, repr_okB c.1 (by decide) (by omega) (by omega), c.2.2.2.1, c.2.2.2.2.1, shB_ok c.2.2.2.2.2, fun L e x hx => okB_thg (okB_lst.mp (e ▸ c.1) x hx)⟩
theorem odd_lit {d : D} (h : d ∈ oddA) : d ∈ litA := List.mem_append_right _ h
theorem u_odd {n : Nat} {M : MH} (h : Pot n M) : ∃ d M', m__law_odd [.obj n] M = .ok (.val d) M' ∧ d ∈ oddL ∧ Pot n M' := by
  obtain ⟨r, M', h1, h2, h3⟩ := takeP h 17 (by decide) (by decide)
  obtain ⟨d, h4, h5⟩ := atD_int oddL r h2.1 (by simpa [oddL] using h2.2)
  refine ⟨d, M', ?_, h5, h3⟩
  unfold oddL at h4
  simp [m__law_odd, fPow_c, h1, h4]
/-! asked whether it is a list, a text -/
theorem isU_thg (d : D) (T : String) : fIsU 5 (5 + 1) [d, .ty T] = (match d with
    | .ins c _ => if (5 ≤ c ∧ c < 5 + 1) ∧ (T = "int" ∨ T = "bool" ∨ T = "str" ∨ T = "tuple" ∨ T = "list" ∨ T = "dict") then some (.val (.bl false)) else none
    | d => fIsi [d, .ty T]) := by
  cases d <;> rfl
theorem isU_bot (p : Tx × Int × Int) (T : String) (h : T = "list" ∨ T = "str") : fIsU 5 (5 + 1) [botP p, .ty T] = some (.val (.bl false)) := by
  rw [botP, isU_thg]
  rcases h with rfl | rfl <;> rfl
@[simp] theorem now_botP (e : PI.Env) (m : MH) (p : Tx × Int × Int) : (PV.v (botP p)).now e m = .ok (botP p) e m := rfl
/-! what is no list of bottles -/
theorem hot_bottles : hotOf m__law_word ⟨0, []⟩ = some (.tup [.str [98, 111, 116, 116, 108, 101, 115]]) := by kernel_rfl
theorem hot_size : hotOf m__law_word ⟨1, []⟩ = some (.tup [.str [115, 105, 122, 101]]) := by kernel_rfl
theorem hot_text : hotOf m__law_word ⟨2, [(2, .int 0)]⟩ = some (.tup [.str [116, 101, 120, 116], .int 0]) := by kernel_rfl
def NoBs (d : D) : Prop := ∀ M, m_are_bottles [d] M = .ok (.val (.bl false)) M
theorem t_writtenSo {d : D} (h : NoBs d) (M : MH) : m__law_written_so [d] M = .ok (.val (.tup [.str [98, 111, 116, 116, 108, 101, 115]])) M := by
  have b1 : ∀ M, m_written [d] M = .err ⟨0, []⟩ M := fun M => by
    have h := fun M => h M
    simp [m_written, h, sRaise]
  have tk := fun e M h => tryK_err e M nX 1 subT (hotOf m__law_word) ⟨0, []⟩ _ (by decide) rfl h hot_bottles rfl
  simp [m__law_written_so, b1, tk]
/-! no size -/
theorem t_noSize {x d : D} (h : Odd d) (M : MH) : m_read [x, d] M = .err ⟨1, []⟩ M := by
  have h1 := isi_int (kd_thg h.thg)
  have h2 := isi_bool (kd_thg h.thg)
  have hn := fun e m => now_thg h.thg e m
  have hs := h.nsz
  cases d with
  | int i =>
    have e : fNotIn (.int i) (.tup [.int 37, .int 75, .int 150]) = some (!sizeB (.int i)) := by
      have := fIn_iT i [37, 75, 150]
      rw [show D.tup (lI [37, 75, 150]) = .tup [.int 37, .int 75, .int 150] from rfl] at this
      show (fIn _ _).map _ = _
      rw [this]
      simp [sizeB]
    rw [hs] at e
    simp [m_read, h1, h2, D.isInt, D.isBl, e, sRaise]
  | _ => simp [m_read, h1, h2, hn, D.isInt, D.isBl, sRaise]
theorem fEq_no {a b : Tx} (h : a ≠ b) : fEq (.str a) (.str b) = some false := by
  rw [fEq_s, beq_eq_false_iff_ne.mpr h]
theorem heard_size {x d : D} (h : Odd d) (M : MH) : m__law_heard [x, d] M = .ok (.val (.tup [.str [115, 105, 122, 101]])) M := by
  have rp := h.rep
  have e := fEq_no h.n75
  have hn := fun e m => now_thg h.thg e m
  have tr := fun M => t_noSize (x := x) h M
  have tk := fun e M h => tryK_err e M nX 3 subT (hotOf m__law_word) ⟨1, []⟩ _ (by decide) rfl h hot_size rfl
  generalize textOf d = td at *
  simp [-fEq_s, m__law_heard, hn, rp, e, pickL, tr, tk]
/-! no text -/
structure NoTx (x : D) : Prop where
  is : fIsU 5 (5 + 1) [x, .ty "str"] = some (.val (.bl false))
  now : ∀ e m, (PV.v x).now e m = .ok x e m
theorem t_noText {x : D} (h : NoTx x) {z : Int} (hz : z = 37 ∨ z = 75 ∨ z = 150) (M : MH) : m_read [x, .int z] M = .err ⟨2, [(2, .int 0)]⟩ M := by
  have h1 := h.is
  have hn := h.now
  have e : fNotIn (.int z) (.tup [.int 37, .int 75, .int 150]) = some false := by
    rcases hz with rfl | rfl | rfl <;> rfl
  have i1 : fIsi [.int z, .ty "bool"] = some (.val (.bl false)) := rfl
  have i2 : fIsi [.int z, .ty "int"] = some (.val (.bl true)) := rfl
  simp at h1
  simp [m_read, i1, i2, e, h1, hn, sRaiseF]
theorem heard_text {x : D} (h : NoTx x) {z : Int} (hz : z = 37 ∨ z = 75 ∨ z = 150) (M : MH) : m__law_heard [x, .int z] M = .ok (.val (.tup [.str [116, 101, 120, 116], .int 0])) M := by
  have tr := fun M => t_noText h hz M
  have tk := fun e M h => tryK_err e M nX 3 subT (hotOf m__law_word) ⟨2, [(2, .int 0)]⟩ _ (by decide) rfl h hot_text rfl
  have rp : fReprA [.int z] = some (.val (.str (strI z))) := by
    have st := str_strI (i := z) (by rcases hz with rfl | rfl | rfl <;> decide)
    rwa [fStrA_int] at st
  have e75 : fEq (.str (strI z)) (.str [55, 53]) = some (decide (z = 75)) := by
    rcases hz with rfl | rfl | rfl
    · rw [strI_37]; rfl
    · rw [strI_75]; rfl
    · rw [strI_150]; rfl
  generalize strI z = sz at *
  by_cases h75 : z = 75
  · subst h75
    simp [-fEq_s, m__law_heard, rp, e75, tr, tk]
  · rw [decide_eq_false h75] at e75
    simp [-fEq_s, m__law_heard, rp, e75, pickL, tr, tk]
end
end L73
/-! PIEvF: runs by what holds behind each statement; names by their slots. -/
namespace PI
open PySem
section
variable {e e1 : Env} {m m1 : MH} {a b : EM Fl} {k : Fl → Env → MH → Prop}
theorem seq_nx (h : a e m = .ok .nx e1 m1) : sSeq a b e m = b e1 m1 := by
  rw [ev_seq, h]
  rfl
end
end PI
/-! PIRun: loops run turn by turn. -/
namespace PI
open PySem
section
variable {e e1 e2 : Env} {m m1 m2 : MH} {b : EM Fl} {c : EM Bool} {n : Nat} {t : TG} {d : D} {ds : List D} {s : SV}
theorem for_nx (h1 : t d e = some e1) (h2 : b e1 m = .ok .nx e2 m2) : sForGo t b (d :: ds) e m = sForGo t b ds e2 m2 := by
  rw [for_cons, ev_tg, h1, tgR_s, bind_ok, bind_ap, h2, bind_ok, loopK_n]
end
end PI
set_option maxHeartbeats 1000000
namespace L73
open PySem PI
noncomputable section
def isB : D → Bool
  | .ins _ _ => true
  | _ => false
structure Asked (d : D) : Prop where
  now : ∀ e m, (PV.v d).now e m = .ok d e m
  is : fIsU 5 (5 + 1) [d, .cls 5] = some (.val (.bl (isB d)))
theorem asked_bot (p : Tx × Int × Int) : Asked (botP p) := ⟨fun _ _ => rfl, rfl⟩
theorem asked_thg {d : D} (h : d.thg = true) : Asked d ∧ isB d = false := by
  have k := kd_thg h
  have nb : isB d = false := by cases d <;> first | rfl | cases h
  refine ⟨⟨fun e m => now_thg h e m, ?_⟩, nb⟩
  rw [nb]
  cases d with
  | dic kvs =>
    have k2 := kd_dic k
    simp [fIsU, k2]
  | _ => first | rfl | cases h
theorem asked_lst (L : List D) : Asked (.lst L) := ⟨fun _ _ => rfl, rfl⟩
theorem isB_ask {d : D} (h : Asked d) (M : MH) : m_is_bottle [d] M = .ok (.val (.bl (isB d))) M := by
  have h1 := h.is
  have hn := h.now
  simp at h1
  simp [m_is_bottle, h1, hn]
theorem ne_nil (d : D) (L : List D) : fNeM (.lst (d :: L)) (.lst []) = some true := by
  have h : fEq (.lst (d :: L)) (.lst []) = (dat (.lst (d :: L))).bind fun p => (dat (.lst [])).bind fun q => if eqOk p q then some (PyData.eqv p q) else none := by
    unfold fEq
    rfl
  have key : fNe (.lst (d :: L)) (.lst []) = some true ∨ fNe (.lst (d :: L)) (.lst []) = none := by
    unfold fNe
    rw [h]
    simp only [dat, datL]
    cases dat d with
    | none => exact .inr rfl
    | some p =>
      cases datL L with
      | none => exact .inr rfl
      | some ps =>
        simp only [Option.bind_some, Option.map_some]
        split
        · exact .inl (by simp [PyData.eqv, PyData.eqvAll])
        · exact .inr rfl
  unfold fNeM
  rcases key with e | e <;> rw [e] <;> rfl
theorem are_lst {L : List D} (h : ∀ d ∈ L, Asked d) (M : MH) : m_are_bottles [.lst L] M = .ok (.val (.bl (L.all isB))) M := by
  have il : fIsU 5 (5 + 1) [.lst L, .ty "list"] = some (.val (.bl true)) := rfl
  have lc : eLc (gNm 1) (itSeq (eLoc 0)) tYes (eUse (eCallD m_is_bottle [] (eCons (eUse (eLoc 1)) eNil))) [1] [some (.val (.lst L)), none] M = .ok (.own (.lst (L.map fun t => .bl (isB t)))) [some (.val (.lst L)), none] M := by
    refine ev_lcA (v := 1) (e := [some (.val (.lst L)), none]) (m := M) (it := itSeq (eLoc 0)) (x := eUse (eCallD m_is_bottle [] (eCons (eUse (eLoc 1)) eNil))) (L := L) (fun d => d) (fun t => .bl (isB t)) (by simp) (by simp [notOwn]) fun t ht => ?_
    have hb := fun M => isB_ask (h t ht) M
    simp [hb]
  have fa := fAll_map isB L
  simp at il
  simp [m_are_bottles, il, lc, fa]
theorem are_no {d : D} (hn : ∀ e m, (PV.v d).now e m = .ok d e m) (h : fIsU 5 (5 + 1) [d, .ty "list"] = some (.val (.bl false))) : NoBs d := fun M => by
  simp at h
  simp [m_are_bottles, h, hn]
/-- a thing that is written -/
structure Thg (d : D) : Prop where
  now : ∀ e m, (PV.v d).now e m = .ok d e m
  ok : d = .lst [] ∨ ∃ b t, fIsU 5 (5 + 1) [d, .ty "list"] = some (.val (.bl b)) ∧ (b = true → fNeM d (.lst []) = some true) ∧ fReprN 5 m_Bottle___repr__ [d] = some (.val (.str t)) ∧ NoBs d
theorem thg_list {L : List D} {n : Nat} (h : ∀ d ∈ L, Asked d) (hs : ∀ d ∈ L, ShN 5 m_Bottle___repr__ n 11 d) (hn : L.length * (n + 2) + 3 ≤ 1000000) (hb : ∃ d ∈ L, isB d = false) : Thg (.lst L) := by
  refine ⟨fun _ _ => rfl, .inr ?_⟩
  obtain ⟨t, e⟩ := reprN_box (ShN.lst hs) hn rfl
  refine ⟨true, t, rfl, fun _ => ?_, e, fun M => ?_⟩
  · cases L with
    | nil => obtain ⟨d, hd, _⟩ := hb; cases hd
    | cons d L => exact ne_nil d L
  · rw [are_lst h]
    have : L.all isB = false := by
      rw [List.all_eq_false]
      obtain ⟨d, hd, e⟩ := hb
      exact ⟨d, hd, by rw [e]; decide⟩
    rw [this]
theorem thg_odd {d : D} (h : Odd d) : Thg d := by
  have h0 := h
  obtain ⟨ht, hr, _, _, _, hel⟩ := h
  refine ⟨fun e m => now_thg ht e m, ?_⟩
  have hrep : fReprN 5 m_Bottle___repr__ [d] = some (.val (.str (textOf d))) := by
    refine reprN_of ?_
    cases d <;> first | exact hr | cases ht
  have isl := isi_list (kd_thg ht)
  by_cases hl : d.isLst = true
  · cases d with
    | lst L =>
      cases L with
      | nil => exact .inl rfl
      | cons x L =>
        right
        refine ⟨true, _, rfl, fun _ => ne_nil x L, hrep, ?_⟩
        have hx := hel _ rfl
        intro M
        rw [are_lst fun y hy => (asked_thg (hx y hy)).1]
        rw [List.all_cons, (asked_thg (hx x (List.mem_cons_self ..))).2]
        rfl
    | _ => cases hl
  · right
    have hl2 : d.isLst = false := by simpa using hl
    rw [hl2] at isl
    have e : fIsU 5 (5 + 1) [d, .ty "list"] = some (.val (.bl false)) := by
      rw [isU_thg]
      cases d <;> first | exact isl | cases ht
    exact ⟨false, _, e, (fun z => by cases z), hrep, are_no (fun e m => now_thg ht e m) e⟩
end
end L73
set_option maxHeartbeats 1000000
namespace L73
open PySem PI
noncomputable section
section
variable (a0 a1 a2 a3 a4 a5 a6 a7 a8 a9 : Option SV)
def E3 (x10 x11 x12 x13 : Option SV) : PI.Env := [a0, a1, a2, a3, a4, a5, a6, a7, a8, a9, x10, x11, x12, x13]
theorem th_go (x12 x13 : Option SV) (M : MH) : ∀ (T : List D) (x10 x11 : Option SV), (∀ d ∈ T, Thg d) → ∃ y10 y11, sForGo (gNm 10) l_law_3 T (E3 a0 a1 a2 a3 a4 a5 a6 a7 a8 a9 x10 x11 x12 x13) M = .ok .nx (E3 a0 a1 a2 a3 a4 a5 a6 a7 a8 a9 y10 y11 x12 x13) M
  | [], x10, x11, _ => ⟨x10, x11, rfl⟩
  | d :: T, x10, x11, h => by
    have hd := h d (List.mem_cons_self ..)
    have hn := hd.now
    have st : ∃ z, l_law_3 (E3 a0 a1 a2 a3 a4 a5 a6 a7 a8 a9 (some (.val d)) x11 x12 x13) M = .ok .nx (E3 a0 a1 a2 a3 a4 a5 a6 a7 a8 a9 (some (.val d)) z x12 x13) M := by
      rcases hd.ok with rfl | ⟨b, t, h1, h2, h3, h4⟩
      · have i1 : fIsU 5 (5 + 1) [.lst [], .ty "list"] = some (.val (.bl true)) := rfl
        have i2 : fNeM (.lst []) (.lst []) = some false := rfl
        simp at i1
        exact ⟨x11, by simp [E3, l_law_3, i1, i2]⟩
      · have w := fun M => t_writtenSo h4 M
        have n1 : fNe (.tup [.str [98, 111, 116, 116, 108, 101, 115]]) (.tup [.str [98, 111, 116, 116, 108, 101, 115]]) = some false := rfl
        have n2 : fNe (.str t) (.str t) = some false := by
          show (fEq (.str t) (.str t)).map _ = _
          rw [fEq_s, beq_self_eq_true]
          rfl
        refine ⟨some (.val (.str t)), ?_⟩
        simp at h1
        cases b with
        | true => simp [-fNe_d, E3, l_law_3, h1, hn, h2 rfl, h3, w, n1, n2]
        | false => simp [-fNe_d, E3, l_law_3, h1, hn, h3, w, n1, n2]
    obtain ⟨z, st⟩ := st
    obtain ⟨y10, y11, g⟩ := th_go x12 x13 M T (some (.val d)) z fun x hx => h x (List.mem_cons_of_mem _ hx)
    exact ⟨y10, y11, by rw [for_nx (e1 := E3 a0 a1 a2 a3 a4 a5 a6 a7 a8 a9 (some (.val d)) x11 x12 x13) rfl st, g]⟩
theorem tx_go (d : D) (hd : Odd d) (x10 x11 : Option SV) (M : MH) : ∀ (T : List D) (x13 : Option SV), ∃ y13, sForGo (gNm 13) l_law_5 T (E3 a0 a1 a2 a3 a4 a5 a6 a7 a8 a9 x10 x11 (some (.val d)) x13) M = .ok .nx (E3 a0 a1 a2 a3 a4 a5 a6 a7 a8 a9 x10 x11 (some (.val d)) y13) M
  | [], x13 => ⟨x13, rfl⟩
  | x :: T, x13 => by
    have w := fun M => heard_size (x := x) hd M
    have n1 : fNe (.tup [.str [115, 105, 122, 101]]) (.tup [.str [115, 105, 122, 101]]) = some false := rfl
    have st : l_law_5 (E3 a0 a1 a2 a3 a4 a5 a6 a7 a8 a9 x10 x11 (some (.val d)) (some (.val x))) M = .ok .nx (E3 a0 a1 a2 a3 a4 a5 a6 a7 a8 a9 x10 x11 (some (.val d)) (some (.val x))) M := by
      simp [-fNe_d, E3, l_law_5, w, n1]
    obtain ⟨y13, g⟩ := tx_go d hd x10 x11 M T (some (.val x))
    exact ⟨y13, by rw [for_nx (e1 := E3 a0 a1 a2 a3 a4 a5 a6 a7 a8 a9 x10 x11 (some (.val d)) (some (.val x))) rfl st, g]⟩
theorem li_go (dd : D) (x10 x11 : Option SV) (M : MH) : ∀ (T : List D) (x12 x13 : Option SV), (∀ d ∈ T, Odd d) → ∃ y12 y13, sForGo (gNm 12) l_law_4 T (E3 a0 a1 a2 a3 a4 a5 a6 a7 (some (.val dd)) a9 x10 x11 x12 x13) M = .ok .nx (E3 a0 a1 a2 a3 a4 a5 a6 a7 (some (.val dd)) a9 x10 x11 y12 y13) M
  | [], x12, x13, _ => ⟨x12, x13, rfl⟩
  | d :: T, x12, x13, h => by
    obtain ⟨z, g0⟩ := tx_go a0 a1 a2 a3 a4 a5 a6 a7 (some (.val dd)) a9 d (h d (List.mem_cons_self ..)) x10 x11 M [.str [97, 32, 49, 57, 53, 48], .str [120], .non, dd] x13
    have st : l_law_4 (E3 a0 a1 a2 a3 a4 a5 a6 a7 (some (.val dd)) a9 x10 x11 (some (.val d)) x13) M = .ok .nx (E3 a0 a1 a2 a3 a4 a5 a6 a7 (some (.val dd)) a9 x10 x11 (some (.val d)) z) M := by
      unfold E3 at g0 ⊢
      simp [l_law_4]
      exact g0
    obtain ⟨y12, y13, g⟩ := li_go dd x10 x11 M T (some (.val d)) z fun x hx => h x (List.mem_cons_of_mem _ hx)
    exact ⟨y12, y13, by rw [for_nx (e1 := E3 a0 a1 a2 a3 a4 a5 a6 a7 (some (.val dd)) a9 x10 x11 (some (.val d)) x13) rfl st, g]⟩
theorem te_go (n : Nat) (x10 x11 x12 : Option SV) : ∀ (T : List D) (x13 : Option SV) (M : MH), (∀ d ∈ T, NoTx d) → Pot n M → ∃ y13 M', sForGo (gNm 13) l_law_6 T (E3 a0 a1 (some (.val (.obj n))) a3 a4 a5 a6 a7 a8 a9 x10 x11 x12 x13) M = .ok .nx (E3 a0 a1 (some (.val (.obj n))) a3 a4 a5 a6 a7 a8 a9 x10 x11 x12 y13) M' ∧ Pot n M'
  | [], x13, M, _, hp => ⟨x13, M, rfl, hp⟩
  | x :: T, x13, M, h, hp => by
    obtain ⟨r, M1, a1', a2', p1⟩ := takeP hp 3 (by decide) (by decide)
    obtain ⟨zz, c1, c2⟩ := atD_mem [D.int 75, .int 37, .int 150] r 3 rfl a2'
    obtain ⟨z, rfl, hz⟩ : ∃ z, zz = .int z ∧ (z = 37 ∨ z = 75 ∨ z = 150) := by
      simp only [List.mem_cons, List.not_mem_nil, or_false] at c2
      rcases c2 with rfl | rfl | rfl <;> exact ⟨_, rfl, by omega⟩
    have w := fun M => heard_text (h x (List.mem_cons_self ..)) hz M
    have n1 : fNe (.tup [.str [116, 101, 120, 116], .int 0]) (.tup [.str [116, 101, 120, 116], .int 0]) = some false := rfl
    have st : l_law_6 (E3 a0 a1 (some (.val (.obj n))) a3 a4 a5 a6 a7 a8 a9 x10 x11 x12 (some (.val x))) M = .ok .nx (E3 a0 a1 (some (.val (.obj n))) a3 a4 a5 a6 a7 a8 a9 x10 x11 x12 (some (.val x))) M1 := by
      simp [-fNe_d, E3, l_law_6, a1', c1, w, n1]
    obtain ⟨y13, M2, g, p2⟩ := te_go n x10 x11 x12 T (some (.val x)) M1 (fun d hd => h d (List.mem_cons_of_mem _ hd)) p1
    exact ⟨y13, M2, by rw [for_nx (e1 := E3 a0 a1 (some (.val (.obj n))) a3 a4 a5 a6 a7 a8 a9 x10 x11 x12 (some (.val x))) rfl st, g], p2⟩
end
theorem a1950 : kinOk ([97], 1950, 75) := ⟨mk_ok [97] (by decide), by decide, by decide⟩
theorem noTx_thg {d : D} (h : d.thg = true) (hs : d.isStr = false) : NoTx d := by
  have i := isi_str (kd_thg h)
  rw [hs] at i
  refine ⟨?_, fun e m => now_thg h e m⟩
  rw [isU_thg]
  cases d <;> first | exact i | cases h
theorem turn_ok {n : Nat} {M : MH} (hp : Pot n M) {ks : List (Tx × Int × Int)} (hk : ∀ p ∈ ks, kinOk p) (hl : 1 ≤ ks.length ∧ ks.length ≤ 6) (x0 x1 x4 x5 x6 x7 x8 x9 x10 x11 x12 x13 : Option SV) :
    ∃ y5 y6 y7 y8 y9 y10 y11 y12 y13 M', l_law_2 (E3 x0 x1 (some (.val (.obj n))) (some (.val (.lst (ks.map kinD)))) x4 x5 x6 x7 x8 x9 x10 x11 x12 x13) M = .ok .nx (E3 x0 x1 (some (.val (.obj n))) (some (.val (.lst (ks.map kinD)))) x4 y5 y6 y7 y8 y9 y10 y11 y12 y13) M' ∧ Pot n M' := by
  obtain ⟨c, M1, b1, b2, p1⟩ := takeP hp 5 (by decide) (by decide)
  obtain ⟨ps, M2, c1, c2, c3, p2⟩ := u_bottles p1 hk hl (c := c) (by omega)
  obtain ⟨at_, M3, d1, d2, p3⟩ := takeP p2 (ps.length + 1) (by omega) (by omega)
  obtain ⟨od, M4, e1, e2', p4⟩ := u_odd p3
  obtain ⟨r6, M5, f1, f2, p5⟩ := takeP p4 6 (by decide) (by decide)
  obtain ⟨o, g1, g2⟩ := atD_mem [D.non, .str [97, 32, 49, 57, 53, 48], .int 7, .tup [.str [97], .int 1950, .int 75], .lst [], od] r6 6 rfl f2
  have ho : o ∈ oddA := by
    simp only [List.mem_cons, List.not_mem_nil, or_false] at g2
    rcases g2 with rfl | rfl | rfl | rfl | rfl | rfl
    · exact List.mem_append_left _ (by simp)
    · exact List.mem_append_left _ (by simp)
    · exact List.mem_append_left _ (by simp)
    · exact List.mem_append_left _ (by simp)
    · exact List.mem_append_left _ (by simp)
    · exact List.mem_append_right _ e2'
  have hO := lit_odd (odd_lit ho)
  have bm := fun M => bot_made a1950 M
  let row := ps.map botP
  let th1 : List D := row.take at_.toNat ++ [o] ++ row.drop at_.toNat
  let T : List D := [.lst th1, .tup row, .dic [(.int 0, .lst row)], .non, .str [97, 32, 49, 57, 53, 48], .lst [.lst row], botP ([97], 1950, 75), o]
  have hrow : ∀ d ∈ row, Asked d ∧ ShN 5 m_Bottle___repr__ 40 0 d := fun d hd => by
    obtain ⟨p, hp, rfl⟩ := List.mem_map.mp hd
    exact ⟨asked_bot p, sh_bot (c2 p hp)⟩
  have rl : row.length ≤ 15 := by simpa [row] using c3
  have h1 : Thg (.lst th1) := by
    have mem : ∀ d ∈ th1, d ∈ row ∨ d = o := fun d hd => by
      simp only [th1, List.mem_append, List.mem_singleton] at hd
      rcases hd with (hd | hd) | hd
      · exact .inl (List.mem_of_mem_take hd)
      · exact .inr hd
      · exact .inl (List.mem_of_mem_drop hd)
    refine thg_list (n := 100) (fun d hd => ?_) (fun d hd => ?_) ?_ ⟨o, by simp [th1], (asked_thg hO.thg).2⟩
    · rcases mem d hd with h | rfl
      · exact (hrow d h).1
      · exact (asked_thg hO.thg).1
    · rcases mem d hd with h | rfl
      · exact (hrow d h).2.mono (by decide) (by decide)
      · exact hO.sh.mono (Nat.le_refl _) (by decide)
    · have : th1.length ≤ 31 := by simp [th1]; omega
      omega
  have nowrow : ∀ e m, (PV.v (.lst row)).now e m = .ok (.lst row) e m := fun _ _ => rfl
  have shRow : ShN 5 m_Bottle___repr__ 700 1 (.lst row) := (ShN.lst fun d hd => (hrow d hd).2).mono (by omega) (Nat.le_refl _)
  have h2 : Thg (.tup row) := by
    have sh := (ShN.tup fun d hd => (hrow d hd).2).mono (m := 700) (l := 12) (by omega) (by decide)
    obtain ⟨t, e⟩ := reprN_box sh (by decide) rfl
    have e2 : fIsU 5 (5 + 1) [.tup row, .ty "list"] = some (.val (.bl false)) := rfl
    exact ⟨fun _ _ => rfl, .inr ⟨false, t, e2, (fun z => by cases z), e, are_no (fun _ _ => rfl) e2⟩⟩
  have h3 : Thg (.dic [(.int 0, .lst row)]) := by
    obtain ⟨m, sh, hm⟩ := ShN.dic1 (i := 0) (by decide) (by decide) shRow
    obtain ⟨t, e⟩ := reprN_box (sh.mono (Nat.le_refl _) (by decide)) (by rw [hm]; decide) rfl
    have e2 : fIsU 5 (5 + 1) [.dic [(.int 0, .lst row)], .ty "list"] = some (.val (.bl false)) := rfl
    exact ⟨fun _ _ => rfl, .inr ⟨false, t, e2, (fun z => by cases z), e, are_no (fun _ _ => rfl) e2⟩⟩
  have h6 : Thg (.lst [.lst row]) := thg_list (n := 700) (fun d hd => by rw [List.mem_singleton.mp hd]; exact asked_lst _) (fun d hd => by rw [List.mem_singleton.mp hd]; exact shRow.mono (Nat.le_refl _) (by decide)) (by simp) ⟨_, List.mem_singleton_self _, rfl⟩
  have h7 : Thg (botP ([97], 1950, 75)) := ⟨fun _ _ => rfl, .inr ⟨false, _, isU_bot _ "list" (.inl rfl), (fun z => by cases z), reprN_of (repr_botP a1950), are_no (fun _ _ => rfl) (isU_bot _ "list" (.inl rfl))⟩⟩
  have hT : ∀ d ∈ T, Thg d := fun d hd => by
    simp only [T, List.mem_cons, List.not_mem_nil, or_false] at hd
    rcases hd with rfl | rfl | rfl | rfl | rfl | rfl | rfl | rfl
    · exact h1
    · exact h2
    · exact h3
    · exact thg_odd (lit_odd (by simp [litA, litL]))
    · exact thg_odd (lit_odd (odd_lit (List.mem_append_left _ (by simp))))
    · exact h6
    · exact h7
    · exact thg_odd hO
  let a9 : Option SV := some (.val (.lst T))
  let a7 : Option SV := some (.val (.lst [D.non, .str [97, 32, 49, 57, 53, 48], .int 7, .tup [.str [97], .int 1950, .int 75], .lst [], od]))
  obtain ⟨y10, y11, t1⟩ := th_go x0 x1 (some (.val (.obj n))) (some (.val (.lst (ks.map kinD)))) x4 (some (.val (.lst row))) (some (.val (.int at_))) a7 (some (.val o)) a9 x12 x13 M5 T x10 x11 hT
  obtain ⟨y12, y13, t2⟩ := li_go x0 x1 (some (.val (.obj n))) (some (.val (.lst (ks.map kinD)))) x4 (some (.val (.lst row))) (some (.val (.int at_))) a7 a9 o y10 y11 M5 (litL ++ [o]) x12 x13 (fun d hd => by
    rcases List.mem_append.mp hd with h | h
    · exact lit_odd (List.mem_append_left _ h)
    · rw [List.mem_singleton.mp h]; exact hO)
  obtain ⟨z13, M6, t3, p6⟩ := te_go x0 x1 (some (.val (.lst (ks.map kinD)))) x4 (some (.val (.lst row))) (some (.val (.int at_))) a7 (some (.val o)) a9 n y10 y11 y12 [.non, .int 0, .lst [.str [97, 32, 49, 57, 53, 48]], .tup [.str [97, 32, 49, 57, 53, 48]], .dic [], botP ([97], 1950, 75), .lst row] y13 M5 (fun d hd => by
    simp only [List.mem_cons, List.not_mem_nil, or_false] at hd
    rcases hd with rfl | rfl | rfl | rfl | rfl | rfl | rfl
    · exact noTx_thg rfl rfl
    · exact noTx_thg rfl rfl
    · exact noTx_thg rfl rfl
    · exact noTx_thg rfl rfl
    · exact noTx_thg rfl rfl
    · exact ⟨isU_bot _ "str" (.inr rfl), fun _ _ => rfl⟩
    · exact ⟨rfl, fun _ _ => rfl⟩) p5
  refine ⟨some (.val (.lst row)), some (.val (.int at_)), a7, some (.val o), a9, y10, y11, y12, z13, M6, ?_, p6⟩
  have ct := cutD_toI row at_ d2.1
  have cf := cutD_fromI row at_ d2.1
  have ad1 := fAdd_l (x := row.take at_.toNat) (y := [o]) (by simp; omega)
  have ad2 := fAdd_l (x := row.take at_.toNat ++ [o]) (y := row.drop at_.toNat) (by simp; omega)
  have lr : fLen [.lst row] = some (.val (.int ps.length)) := by simp [row]
  have e9 : (D.lst th1) = D.lst (row.take at_.toNat ++ [o] ++ row.drop at_.toNat) := rfl
  have on := fun e m => now_thg hO.thg e m
  unfold l_law_2
  refine (seq_nx (e1 := E3 x0 x1 (some (.val (.obj n))) (some (.val (.lst (ks.map kinD)))) x4 (some (.val (.lst row))) x6 x7 x8 x9 x10 x11 x12 x13) (m1 := M2) (by
    generalize ks.map kinD = KD at *
    simp [E3, b1, c1, row])).trans ?_
  refine (seq_nx (e1 := E3 x0 x1 (some (.val (.obj n))) (some (.val (.lst (ks.map kinD)))) x4 (some (.val (.lst row))) (some (.val (.int at_))) a7 x8 x9 x10 x11 x12 x13) (m1 := M4) (by
    generalize ks.map kinD = KD at *
    clear_value row
    simp [E3, lr, d1, e1, a7])).trans ?_
  refine (seq_nx (e1 := E3 x0 x1 (some (.val (.obj n))) (some (.val (.lst (ks.map kinD)))) x4 (some (.val (.lst row))) (some (.val (.int at_))) a7 (some (.val o)) x9 x10 x11 x12 x13) (m1 := M5) (by
    generalize ks.map kinD = KD at *
    clear_value row
    simp [E3, a7, f1, g1])).trans ?_
  refine (seq_nx (e1 := E3 x0 x1 (some (.val (.obj n))) (some (.val (.lst (ks.map kinD)))) x4 (some (.val (.lst row))) (some (.val (.int at_))) a7 (some (.val o)) a9 x10 x11 x12 x13) (m1 := M5) (by
    have bm' : ∀ M, m_Bottle [.str [97], .int 1950, .int 75] M = .ok (.own (.ins 5 [(8, .str [97]), (9, .int 1950), (10, .int 75)])) M := bm
    generalize ks.map kinD = KD at *
    clear_value row
    simp [E3, a9, T, th1, ct, cf, ad1, ad2, bm', botP, dicN])).trans ?_
  refine (seq_nx (e1 := E3 x0 x1 (some (.val (.obj n))) (some (.val (.lst (ks.map kinD)))) x4 (some (.val (.lst row))) (some (.val (.int at_))) a7 (some (.val o)) a9 y10 y11 x12 x13) (m1 := M5) (by
    have it : itemsOf (.lst T) = some T := rfl
    generalize ks.map kinD = KD at *
    clear_value row
    simp only [E3, a9] at t1 ⊢
    generalize T = T0 at *
    simp [it]
    exact t1)).trans ?_
  refine (seq_nx (e1 := E3 x0 x1 (some (.val (.obj n))) (some (.val (.lst (ks.map kinD)))) x4 (some (.val (.lst row))) (some (.val (.int at_))) a7 (some (.val o)) a9 y10 y11 y12 y13) (m1 := M5) (by
    generalize ks.map kinD = KD at *
    simp only [litL, List.cons_append, List.nil_append] at t2
    clear_value row a9 a7
    simp only [E3] at t2 ⊢
    simp [fPow_c]
    exact t2)).trans ?_
  have bm' : ∀ M, m_Bottle [.str [97], .int 1950, .int 75] M = .ok (.own (.ins 5 [(8, .str [97]), (9, .int 1950), (10, .int 75)])) M := bm
  generalize ks.map kinD = KD at *
  clear_value row a9 a7
  simp only [E3, botP] at t3 ⊢
  simp [bm']
  exact t3
theorem cell_ok {ns : List Int} {k : Nat} (M : MH) (x2 x3 x4 x5 x6 x7 x8 x9 x10 x11 x12 x13 : Option SV) :
    ∃ y2 y3 y4 y5 y6 y7 y8 y9 y10 y11 y12 y13 M', l_law_1 (E3 (some (.val (scriptD ns))) (some (.val (.int k))) x2 x3 x4 x5 x6 x7 x8 x9 x10 x11 x12 x13) M = .ok .nx (E3 (some (.val (scriptD ns))) (some (.val (.int k))) y2 y3 y4 y5 y6 y7 y8 y9 y10 y11 y12 y13) M' := by
  obtain ⟨q, hc⟩ := t_cell ns k M
  obtain ⟨z, hz, a2⟩ := t_pot q M
  have hP : Pot M.length (M ++ [.lst [.int z]]) := ⟨z, hz, by simp⟩
  obtain ⟨ks, M1, b1, hk, hl, p1⟩ := u_kinds hP
  have key := wp_loop (t := gNm 4) (b := l_law_2) D.int
    (fun (rest : List Int) e m => ∃ (y4 y5 y6 y7 y8 y9 y10 y11 y12 y13 : Option SV), e = E3 (some (.val (scriptD ns))) (some (.val (.int k))) (some (.val (.obj M.length))) (some (.val (.lst (ks.map kinD)))) y4 y5 y6 y7 y8 y9 y10 y11 y12 y13 ∧ Pot M.length m)
    (fun fl e m => fl = .nx ∧ ∃ (y4 y5 y6 y7 y8 y9 y10 y11 y12 y13 : Option SV), e = E3 (some (.val (scriptD ns))) (some (.val (.int k))) (some (.val (.obj M.length))) (some (.val (.lst (ks.map kinD)))) y4 y5 y6 y7 y8 y9 y10 y11 y12 y13)
    (fun i rest e m => by
      rintro ⟨y4, y5, y6, y7, y8, y9, y10, y11, y12, y13, rfl, hp⟩
      obtain ⟨w5, w6, w7, w8, w9, w10, w11, w12, w13, M2, g, p2⟩ := turn_ok hp hk hl (some (.val (scriptD ns))) (some (.val (.int k))) (some (.val (.int i))) y5 y6 y7 y8 y9 y10 y11 y12 y13
      generalize hK : loopI _ _ = K
      simp only [E3] at g ⊢
      generalize ks.map kinD = KD at *
      simp [g]
      subst hK
      exact ⟨_, _, _, _, _, _, _, _, _, _, rfl, p2⟩)
    (fun e m => by
      rintro ⟨y4, y5, y6, y7, y8, y9, y10, y11, y12, y13, rfl, hp⟩
      exact ⟨rfl, _, _, _, _, _, _, _, _, _, _, rfl⟩)
    (rangeI 0 8) (E3 (some (.val (scriptD ns))) (some (.val (.int k))) (some (.val (.obj M.length))) (some (.val (.lst (ks.map kinD)))) x4 x5 x6 x7 x8 x9 x10 x11 x12 x13) M1 ⟨_, _, _, _, _, _, _, _, _, _, rfl, p1⟩
  obtain ⟨fl, e', m', h1, rfl, y4, y5, y6, y7, y8, y9, y10, y11, y12, y13, rfl⟩ := key.ex
  refine ⟨some (.val (.obj M.length)), some (.val (.lst (ks.map kinD))), y4, y5, y6, y7, y8, y9, y10, y11, y12, y13, m', ?_⟩
  simp only [E3] at h1 ⊢
  generalize ks.map kinD = KD at *
  simp [l_law_1, hc, a2, b1, rangeD_I, lI]
  exact h1
theorem law_holds (ns : List Int) (hns : ns.length ≤ 63) : ∃ M, m_law [scriptD ns] [] = .ok (.val (.bl true)) M := by
  obtain ⟨fl, e', m', h1, rfl, h2⟩ := (wp_loop (t := gNm 1) (b := l_law_1) (fun k : Nat => .int (k : Int)) (fun rest e m => ∃ x1 x2 x3 x4 x5 x6 x7 x8 x9 x10 x11 x12 x13, e = E3 (some (.val (scriptD ns))) x1 x2 x3 x4 x5 x6 x7 x8 x9 x10 x11 x12 x13)
    (fun fl e m => fl = .nx ∧ True)
    (fun k rest e m => by
      rintro ⟨x1, x2, x3, x4, x5, x6, x7, x8, x9, x10, x11, x12, x13, rfl⟩
      obtain ⟨y2, y3, y4, y5, y6, y7, y8, y9, y10, y11, y12, y13, N, g⟩ := cell_ok (ns := ns) (k := k) m x2 x3 x4 x5 x6 x7 x8 x9 x10 x11 x12 x13
      generalize hK : loopI _ _ = K
      simp only [E3] at g ⊢
      simp [g]
      subst hK
      exact ⟨_, _, _, _, _, _, _, _, _, _, _, _, _, rfl⟩)
    (fun e m h => ⟨rfl, trivial⟩) (List.range (max 1 (min ns.length 4))) (E3 (some (.val (scriptD ns))) none none none none none none none none none none none none none) [] ⟨_, _, _, _, _, _, _, _, _, _, _, _, _, rfl⟩).ex
  refine ⟨m', ?_⟩
  have hl : fLen [scriptD ns] = some (.val (.int ns.length)) := by simp [scriptD]
  have hn : (PV.v (scriptD ns)).now = fun e m => Res.ok (scriptD ns) e m := rfl
  have hc : (-100000 : Int) ≤ max 1 (min (ns.length : Int) 4) ∧ max 1 (min (ns.length : Int) 4) ≤ 100000 := by omega
  have hr : rangeD 0 (max 1 (min (ns.length : Int) 4)) = (List.range (max 1 (min ns.length 4))).map fun k : Nat => .int (k : Int) := by
    unfold rangeD
    rw [show (max 1 (min (ns.length : Int) 4) - 0).toNat = max 1 (min ns.length 4) by omega]
    apply List.map_congr_left
    intro k _
    simp
  simp [m_law, hl, hn, hc, hr]
  simp only [E3] at h1
  rw [h1]
  simp
end
end L73
set_option maxHeartbeats 0
open PySem PySem.W PySem.Calls PyProof.Rows
theorem PySem.Challenge.cw_dimcellar_k73_lists_refused_holds : PySem.Challenge.rw_dimcellar_k73_lists_refused.Holds := by
  w_on; o_law
  refine HandSHeadRun.head_any (r := L73.rowL) (q := view L73.rowL.prog [60]) (H := L73.hk) (ob := L73.obL) (M := 30000) (loose := L73.nms) (d := HandSHeadRun.topDef L73.rowL.prog 60) (kwd := []) L73.obL_eq
    (by kernel_rfl) (fun s => by kernel_rfl) L73.runL (by kernel_rfl) (by kernel_rfl) (by kernel_rfl) (by rfl) (by first | assumption | decide +kernel) (by decide +kernel) ⟨rfl, rfl, rfl, rfl, rfl, by decide +kernel⟩ ?hw ?hc
  case hw => w_witness2
  case hc =>
    refine PI.walkI (l := PySem.Challenge.rw_dimcellar_k73_lists_refused) (n := 63) (k := 9) (x := "_law_script") (sem := L73.m_law) rfl (by decide) (by kernel_rfl) ⟨⟨rfl, by decide, by decide⟩, rfl⟩ ?F L73.law_holds
    intro w mg fa h Y Gn hmg0
    obtain ⟨K, KX, c⟩ := Y
    have hmg : mg ("law" : PySem.Str) = some (.ref fa) := by
      have e : (HandSHeadRun.topDef L73.rowL.prog 60).name = ("law" : PySem.Str) := by kernel_rfl
      rw [← e]
      exact hmg0
    obtain ⟨fd, hb, hF⟩ := L73.facts (P := L73.rowL.prog) (w := w) KX Gn hmg c
    exact ⟨L73.gOf K, fd, KX, hb, hF⟩
