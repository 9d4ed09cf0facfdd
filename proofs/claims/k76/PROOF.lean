import PyProof.Rows.All
import Wide.All
import OpenK.AllK
import Wide.FinOn
import HandS.ForMost
import HandS.CallSlots
import HandS.Exc
import HandS.ExcCtx
import HandS.HotCalls
import HandS.ExcInit
import HandS.ExcInitHot
import HandS.ExcField
import HandS.ExcIs
import HandS.TryOnly
import HandS.TupAny
import HandS.TupMul
import HandS.Zip
import HandS.Rev
import HandS.Evl
import HandS.RaiseMore
import HandS.Deep
import HandS.WideBits
import PyProof.P3In
import HandS.SortKw
import HandS.RevRange
import KE.GoesEnum
import HandS.NoneIn
import HandS.RevTup
import HandS.Conv
import HandS.IsInst
import HandS.Defaults
import HandS.HeadHook4
import HandS.HeadEnd
import HandS.Head0
import HandS.Head1
import HandS.Head2
import HandS.HeadHook1
import HandS.HeadHook2
import PyProof.FitsInt
import PyProof.ReprReads
import PyProof.P3Eq
import PySem.Challenge.RW_shufflerests_k76_null_papers_of_two_lett
set_option Elab.async false
set_option linter.all false
set_option maxRecDepth 100000
set_option maxHeartbeats 4000000
section
namespace Ev
def trimI : List Int → List Int
  | [] => []
  | n :: ns => match trimI ns with
    | [] => if n = 0 then [] else [n]
    | r => n :: r
def redI (m : Int) (ns : List Int) : List Int := trimI (ns.map (·.fmod m))
def horI (m x : Int) (fs : List Int) : Int := fs.reverse.foldl (fun a c => (a * x + c).fmod m) 0
def trimE : List (List Int) → List (List Int)
  | [] => []
  | r :: rs => match trimE rs with
    | [] => if r = [] then [] else [r]
    | q => r :: q
def convS (m : Int) (f g : List Int) (L : List Int) (i j : Nat) : List Int := L.set (i + j) ((L.getD (i + j) 0 + f.getD i 0 * g.getD j 0).fmod m)
def conv (m : Int) (f g : List Int) : List Int := (List.range f.length).foldl (fun L i => (List.range g.length).foldl (fun L j => convS m f g L i j) L) (List.replicate (f.length + g.length) 0)
def slI (f : List Int) : List Int := (List.range (f.length - 1)).map fun (k : Nat) => ((k : Int) + 1) * f.getD (k + 1) 0
def sxI (rows : List (List Int)) : List (List Int) := (List.range (rows.length - 1)).map fun (i : Nat) => (rows.getD (i + 1) []).map fun a => ((i : Int) + 1) * a
namespace K
def addI (f g : List Int) : List Int := (List.range (max f.length g.length)).map fun k => f.getD k 0 + g.getD k 0
end K
def hxStep (m x : Int) (F row : List Int) : List Int := redI m (K.addI (redI m (conv m F (redI m [x]))) row)
def hxI (m x : Int) (rows : List (List Int)) : List Int := rows.reverse.foldl (hxStep m x) []
end Ev
namespace Ev
def maxL : Int → List Int → Int
  | k, [] => k
  | _, n :: r => r.foldl (fun a b => if a < b then b else a) n
def widI (rows : List (List Int)) : Int := maxL 0 (rows.map fun r => (r.length : Int))
def exI (rows : List (List Int)) : List (List Int) := (List.range (widI rows).toNat).map fun (j : Nat) => trimI (rows.map fun r => r.getD j 0)
def pwI (m x : Int) : Nat → Int
  | 0 => 1
  | k + 1 => (pwI m x k * x).fmod m
end Ev
end
section
namespace Ev
open PySem

abbrev D := PyData
/-- an exception: the class's name, its fields -/
structure Exn where
  cls : Str
  fs : List (Str × D)
/-- what a slot holds: data that no one changes; a list (a dict) that only this slot may change; an exception -/
inductive Sl where
  | imm (d : D)
  | own (d : D)
  | own2 (dss : List (List D))
  | exc (x : Exn)
abbrev Env := List (Option Sl)
/-- what an expression tells: a value, or a slot's own -/
inductive TV where
  | val (s : Sl)
  | ref (i : Nat)
inductive Res (α : Type) where
  | ok (a : α) (e : Env)
  | ex (x : Exn) (e : Env)
  | bad
abbrev M (α : Type) := Env → Res α
@[reducible] def M.pure {α : Type} (a : α) : M α := fun e => .ok a e
@[reducible] def M.bind {α β : Type} (m : M α) (f : α → M β) : M β := fun e => match m e with
  | .ok a e' => f a e'
  | .ex x e' => .ex x e'
  | .bad => .bad
instance : Monad M where
  pure := M.pure
  bind := M.bind
def badM {α : Type} : M α := fun _ => .bad
/-- an option as an answer -/
def liftO {α : Type} : Option α → M α
  | some a => M.pure a
  | none => badM
def getS (i : Nat) : M Sl := fun e => match e[i]? with
  | some (some s) => .ok s e
  | _ => .bad
def putS (i : Nat) (s : Option Sl) : M Unit := fun e => .ok () (e.set i s)

inductive Fl where
  | nx | bk | ct
  | rt (s : Sl)

inductive Bop where
  | add | sub | mul | div | mod | pow
  deriving DecidableEq
inductive Cop where
  | eq | ne | lt | le | gt | ge | isN | notN | inn | nin
  deriving DecidableEq
inductive Ty where
  | int | bool | tuple | list | str
  deriving DecidableEq
inductive Bi where
  | len | repr | max | min | abs | int | str | sum | any | all | tuple | list
  deriving DecidableEq

/-- what an except suite tells: written values, fields of what is caught -/
inductive HE where
  | con (d : D)
  | fld (f : Str)
inductive HV where
  | one (e : HE)
  | tup (es : List HE)
  | ref (f : Str)
/-- an except suite: a value put into a slot, or given back -/
structure Hs where
  tgt : Option Nat
  v : HV
/-- the core language; argument lists, blocks, targets are of the same type -/
inductive C where
  | var (i : Nat) | mov (i : Nat)
  | int (n : Int) | bl (b : Bool) | non | str (s : Str)
  | glob (x : Str)
  | bin (op : Bop) (a b : C)
  | neg (a : C)
  | cmp (op : Cop) (a b : C)
  | chain (o1 o2 : Cop) (a b c : C)
  | and (a b : C) | or (a b : C) | not (a : C)
  | ite (c a b : C)
  | call (f : Str) (as : C)
  | bi (f : Bi) (as : C)
  | tup (as : C) | lst (as : C)
  | idx (a i : C)
  | slc (a lo hi : C)
  | mxd (a b : C)
  | isi (a : C) (t : Ty)
  | lrv (a : C) | lrg (a b : C) | lr1 (a : C)
  | popE (i : Nat)
  | lc (vs : List Nat) (tg it cond body : C)
  | nil | cons (a as : C)
  | no
  | iE (a : C) | iR1 (a : C) | iR2 (a b : C) | iR3 (a b c : C) | iEn (a : C) | iZp (a b : C) | iRv (a : C) | iRR (a : C)
  | tN (i : Nat) | tT (ts : C)
  | sNil | sCons (s r : C)
  | lc2 (i : Nat) (vs : List Nat) (tg it cond body : C)
  | st2 (i : Nat) (ix jx e : C)
  | lend (h i : Nat) (ix body : C)
  | new2 (i : Nat) | app2 (i : Nat) (e : C) | appL (i : Nat) (ix e : C)
  | kil (is : List Nat)
  | set (i : Nat) (e : C)
  | asg (tg e : C)
  | par (i j : Nat) (a b : C)
  | par3 (i j k : Nat) (a b c : C)
  | stI (i : Nat) (ix e : C)
  | app (i : Nat) (e : C)
  | extd (i : Nat) (e : C)
  | popS (i : Nat)
  | exS (e : C)
  | ifS (c a b : C)
  | forS (tg it body : C)
  | whl (fuel : Nat) (c body : C)
  | ret (e : C) | retN
  | brk | cnt | pass | never
  | rse (x : Str) (as : C)
  | tryS (body : C) (x : Str) (j : Option Nat) (su : Hs)
  | rv1 (a : C)

def lim : Nat := 100000
/-- an index, of either sign -/
def atD (xs : List D) (i : Int) : Option D := L2.atI xs i
def binI : Bop → Int → Int → Option Int
  | .add, i, j => some (i + j)
  | .sub, i, j => some (i - j)
  | .mul, i, j => if ((-(2 ^ 64) < i ∧ i < 2 ^ 64) ∨ (-(2 ^ 64) < j ∧ j < 2 ^ 64)) ∨ (i.natAbs.log2 < 4096 ∧ j.natAbs.log2 < 4096) then some (i * j) else none
  | .div, i, j => if j ≠ 0 ∧ j.natAbs < 1073741824 then some (i.fdiv j) else none
  | .mod, i, j => if j ≠ 0 then some (i.fmod j) else none
  | .pow, i, j => if 0 ≤ j ∧ j ≤ 1000000 ∧ i.natAbs < 2 ^ 64 then some (i ^ j.toNat) else none
def binD : Bop → D → D → Option Sl
  | op, .int i, .int j => (binI op i j).map fun k => .imm (.int k)
  | .add, .str x, .str y => if x.length + y.length ≤ lim then some (.imm (.str (x ++ y))) else none
  | .add, .list xs, .list ys => if xs.length + ys.length ≤ lim then some (.own (.list (xs ++ ys))) else none
  | .add, .tuple xs, .tuple ys => if xs.length + ys.length ≤ lim then some (.imm (.tuple (xs ++ ys))) else none
  | .mul, .list xs, .int k => if k ≤ 100000 ∧ -100000 ≤ k ∧ xs.length * k.toNat ≤ lim then some (.own (.list (List.replicate k.toNat xs).flatten)) else none
  | .mul, .tuple xs, .int k => if xs ≠ [] ∧ 2 ≤ k ∧ k ≤ 1000 ∧ xs.length ≤ 90 then some (.imm (.tuple (List.replicate k.toNat xs).flatten)) else none
  | _, _, _ => none
def isNone : D → Bool
  | .none => true
  | _ => false
def isBool (b : Bool) : D → Bool
  | .bool c => c == b
  | _ => false
def isiD : Ty → D → Bool
  | .int, .int _ => true
  | .int, .bool _ => true
  | .bool, .bool _ => true
  | .tuple, .tuple _ => true
  | .list, .list _ => true
  | .str, .str _ => true
  | _, _ => false
def inD (d : D) (ds : List D) : Bool := ds.any fun z => PyData.eqv z d
def cmpD : Cop → D → D → Option Bool
  | .eq, a, b => if SeqAt.shaped a = true ∧ SeqAt.shaped b = true then some (PyData.eqv a b) else none
  | .ne, a, b => if SeqAt.shaped a = true ∧ SeqAt.shaped b = true then some (!PyData.eqv a b) else none
  | .lt, .int i, .int j => some (decide (i < j))
  | .le, .int i, .int j => some (decide (i ≤ j))
  | .gt, .int i, .int j => some (decide (j < i))
  | .ge, .int i, .int j => some (decide (j ≤ i))
  | .isN, a, .none => some (isNone a)
  | .notN, a, .none => some (!isNone a)
  | .isN, a, .bool b => some (isBool b a)
  | .notN, a, .bool b => some (!isBool b a)
  | .inn, a, .list ds => if SeqAt.shaped a = true ∧ SeqAt.shaped (.list ds) = true then some (inD a ds) else none
  | .nin, a, .list ds => if SeqAt.shaped a = true ∧ SeqAt.shaped (.list ds) = true then some (!inD a ds) else none
  | .inn, a, .tuple ds => if SeqAt.shaped a = true ∧ SeqAt.shaped (.tuple ds) = true then some (inD a ds) else none
  | .nin, a, .tuple ds => if SeqAt.shaped a = true ∧ SeqAt.shaped (.tuple ds) = true then some (!inD a ds) else none
  | _, _, _ => none
/-- where a slice begins, ends -/
def cutD (xs : List D) (lo hi : Option Int) : List D := (xs.drop (HT.sIx xs.length 0 lo)).take (HT.sIx xs.length xs.length hi - HT.sIx xs.length 0 lo)
def intsOf : List D → Option (List Int)
  | [] => some []
  | .int i :: r => (intsOf r).map (i :: ·)
  | _ :: _ => none
def boolsOf : List D → Option (List Bool)
  | [] => some []
  | .bool b :: r => (boolsOf r).map (b :: ·)
  | _ :: _ => none
def biD : Bi → List D → Option Sl
  | .len, [.list xs] => some (.imm (.int xs.length))
  | .len, [.tuple xs] => some (.imm (.int xs.length))
  | .len, [.str x] => if x.length ≤ lim then some (.imm (.int x.length)) else none
  | .repr, [d] => if d.showable = true ∧ d.hasDict = false ∧ d.shown.length ≤ sizeLine ∧ d.depth ≤ 60 then some (.imm (.str d.shown)) else none
  | .max, [.int i, .int j] => some (.imm (.int (if j > i then j else i)))
  | .min, [.int i, .int j] => some (.imm (.int (if j < i then j else i)))
  | .abs, [.int i] => some (.imm (.int (if i < 0 then -i else i)))
  | .int, [.int i] => some (.imm (.int i))
  | .int, [.bool b] => some (.imm (.int (if b = true then 1 else 0)))
  | .str, [.int i] => if i.natAbs.log2 < 1920 then some (.imm (.str (toString i))) else none
  | .sum, [.list xs] => (intsOf xs).map fun ns => .imm (.int ns.sum)
  | .any, [.list xs] => (boolsOf xs).map fun bs => .imm (.bool (bs.any id))
  | .all, [.list xs] => (boolsOf xs).map fun bs => .imm (.bool (bs.all id))
  | .tuple, [.list xs] => some (.imm (.tuple xs))
  | .tuple, [.tuple xs] => some (.imm (.tuple xs))
  | .list, [.list xs] => some (.own (.list xs))
  | .list, [.tuple xs] => some (.own (.list xs))
  | _, _ => none

def Sl.data : Sl → Option D
  | .imm d => some d
  | .own d => some d
  | .own2 _ => none
  | .exc _ => none
/-- the data of a value as it stands now -/
def look : TV → M D
  | .val s => liftO s.data
  | .ref i => do let s ← getS i; liftO s.data
def looks : List TV → M (List D)
  | [] => M.pure []
  | t :: ts => do let d ← look t; let ds ← looks ts; M.pure (d :: ds)
/-- may it be kept by others: a list, then, is never changed again -/
def Sl.share : Sl → Option Sl
  | .imm d => some (.imm d)
  | .own (.list ds) => some (.imm (.list ds))
  | .own _ => none
  | .own2 dss => some (.imm (.list (dss.map .list)))
  | .exc x => some (.exc x)
section
variable (pins : List Nat)
def share : TV → M Sl
  | .val s => liftO s.share
  | .ref i => do
    let s ← getS i
    match s with
    | .own d => if pins.contains i then badM else do
        let t ← liftO (Sl.own d).share
        putS i (some t)
        M.pure t
    | .own2 dss => if pins.contains i then badM else do
        let t ← liftO (Sl.own2 dss).share
        putS i (some t)
        M.pure t
    | s => M.pure s
def shareD (t : TV) : M D := do let s ← share pins t; liftO s.data
def shareDs : List TV → M (List D)
  | [] => M.pure []
  | t :: ts => do let d ← shareD pins t; let ds ← shareDs ts; M.pure (d :: ds)
/-- the slot i is given a value -/
def store (i : Nat) (s : Sl) : M Unit := if pins.contains i then badM else fun e => if i < e.length then .ok () (e.set i (some s)) else .bad
def toStore : TV → M Sl
  | .val s => M.pure s
  | .ref i => share pins (.ref i)
def kills : List Nat → M Unit
  | [] => M.pure ()
  | i :: r => do
    (if pins.contains i then badM else putS i none)
    kills r
/-- data to targets -/
def stores : List (D → M Unit) → List D → M Unit
  | [], [] => M.pure ()
  | g :: gs, d :: ds => do g d; stores gs ds
  | _, _ => badM
end
def boolOf : TV → M Bool
  | t => do
    let d ← look t
    match d with
    | .bool b => M.pure b
    | _ => badM
def intOf (t : TV) : M Int := do
  let d ← look t
  match d with
  | .int i => M.pure i
  | _ => badM
/-- arguments: those that are changed in place are lent, the others shared -/
def pass (pins : List Nat) : List Bool → List TV → M (List Sl)
  | [], [] => M.pure []
  | false :: ms, t :: ts => do let d ← shareD pins t; let r ← pass pins ms ts; M.pure (.imm d :: r)
  | true :: ms, .ref i :: ts => do
    let s ← getS i
    match s with
    | .own (.list ds) => do putS i none; let r ← pass pins ms ts; M.pure (.own (.list ds) :: r)
    | _ => badM
  | _, _ => badM
/-- lent slots come back -/
def back : List Bool → List TV → List Sl → M Unit
  | [], _, _ => M.pure ()
  | false :: ms, _ :: ts, _ :: ss => back ms ts ss
  | true :: ms, .ref i :: ts, s :: ss => do putS i (some s); back ms ts ss
  | _, _, _ => badM

/-- what a call tells: the value, what the arguments are behind it -/
inductive FR where
  | ok (s : Sl) (fin : List Sl)
  | ex (x : Exn) (fin : List Sl)
  | bad
/-- how a def is called: which of its parameters are changed in place -/
structure Rf where
  cls : Str
  fs : List Str
  oth : Str
structure Sig where
  globs : List (Str × D)
  modes : List (Str × List Bool)
  excs : List (Str × List Str) := []
  refs : List (Str × Rf) := []
abbrev Call := Str → List Sl → FR

/-- it is no table -/
def no2 : Sl → M Unit
  | .own2 _ => badM
  | _ => M.pure ()
/-- is an exception of the class x taken by a clause that names c -/
def exIs (sg : Sig) (x c : Str) : Option Bool :=
  if (sg.excs.lookup x).isSome = true then (if c = x then some true else if c = "RestError" then some true else if (sg.excs.lookup c).isSome = true then some false else none) else none
def heD (sg : Sig) (nm : Bool) (x : Exn) : HE → Option D
  | .con d => (match d with
    | .int _ => some d
    | .bool _ => some d
    | .none => some d
    | .str _ => some d
    | _ => none)
  | .fld f => if nm = true ∧ ((sg.excs.lookup x.cls).getD []).contains f = true then x.fs.lookup f else none
def hesD (sg : Sig) (nm : Bool) (x : Exn) : List HE → Option (List D)
  | [] => some []
  | e :: es => match heD sg nm x e, hesD sg nm x es with
    | some d, some ds => some (d :: ds)
    | _, _ => none
def fsD (x : Exn) : List Str → Option (List D)
  | [] => some []
  | f :: fs => match x.fs.lookup f, fsD x fs with
    | some d, some ds => some (d :: ds)
    | _, _ => none
def hvD (sg : Sig) (nm : Bool) (x : Exn) : HV → Option D
  | .one e => heD sg nm x e
  | .tup es => match hesD sg nm x es with
    | some ds => if ds.length ≤ lim then some (.tuple ds) else none
    | none => none
  | .ref f => match sg.refs.lookup f with
    | some r => if nm = true then (if x.cls = r.cls then (fsD x r.fs).map .tuple else some (.str r.oth)) else none
    | none => none
def callM (sg : Sig) (call : Call) (pins : List Nat) (f : Str) (ts : List TV) : M TV := do
  let ms ← liftO (sg.modes.lookup f)
  let ss ← pass pins ms ts
  fun e => match call f ss with
    | .ok s fin => (do back ms ts fin; no2 s; M.pure (TV.val s)) e
    | .ex x fin => match back ms ts fin e with
      | .ok _ e' => .ex x e'
      | _ => .bad
    | .bad => .bad

def raiseM (sg : Sig) (x : Str) (ds : List D) : M Fl := fun e => match sg.excs.lookup x with
  | some fs => if fs.length = ds.length then .ex ⟨x, (fs.zip ds).reverse⟩ e else .bad
  | none => .bad
def killO (pins : List Nat) : Option Nat → M Unit
  | some j => if pins.contains j then badM else fun e => if j < e.length then .ok () (e.set j none) else .bad
  | none => M.pure ()
def suiteM (sg : Sig) (pins : List Nat) (x : Exn) (j : Option Nat) (su : Hs) : M Fl := do
  killO pins j
  let d ← liftO (hvD sg j.isSome x su.v)
  match su.tgt with
  | some i => do
    if j = some i then badM else do
      store pins i (.imm d)
      M.pure .nx
  | none => M.pure (.rt (.imm d))
def tryM (sg : Sig) (pins : List Nat) (c : Str) (j : Option Nat) (su : Hs) (m : M Fl) : M Fl := fun e => match m e with
  | .ex x e' => (match exIs sg x.cls c with
    | some true => suiteM sg pins x j su e'
    | some false => .ex x e'
    | none => .bad)
  | r => r
def addO : Option D → List D → List D
  | some d, ys => d :: ys
  | none, ys => ys
/-- one clause's turns -/
def lcLoop (f : D → M (Option D)) : List D → M (List D)
  | [] => M.pure []
  | x :: xs => do
    let y ← f x
    let ys ← lcLoop f xs
    M.pure (addO y ys)
def forLoop (f : D → M Fl) : List D → M Fl
  | [] => M.pure .nx
  | x :: xs => do
    let r ← f x
    match r with
    | .nx => forLoop f xs
    | .ct => forLoop f xs
    | .bk => M.pure .nx
    | .rt s => M.pure (.rt s)
def whlLoop (c : M Bool) (f : M Fl) : Nat → M Fl
  | 0 => badM
  | n + 1 => do
    let b ← c
    if b = true then do
      let r ← f
      match r with
      | .nx => whlLoop c f n
      | .ct => whlLoop c f n
      | .bk => M.pure .nx
      | .rt s => M.pure (.rt s)
    else M.pure .nx
/-- no exception leaves a comprehension -/
def noEx {α : Type} (m : M α) : M α := fun e => match m e with
  | .ok a e' => .ok a e'
  | _ => .bad
def itemsOf : D → Option (List D)
  | .list xs => some xs
  | .tuple xs => some xs
  | _ => none
def rangeD (lo : Int) (n : Nat) : List D := (List.range n).map fun (k : Nat) => .int (lo + (k : Int))
/-- lo, lo - 1, .. -/
def downD (lo : Int) (n : Nat) : List D := (List.range n).map fun (k : Nat) => .int (lo + (k : Int) * (-1))
def enumD (xs : List D) : List D := xs.zipIdx.map fun p => .tuple [.int (p.2 : Int), p.1]
def zipD (xs ys : List D) : List D := (xs.zip ys).map fun p => .tuple [p.1, p.2]
def zipO : D → D → Option (List D)
  | .list xs, .list ys => some (zipD xs ys)
  | .tuple xs, .tuple ys => some (zipD xs ys)
  | _, _ => none
def okI (i : Int) : Bool := decide (-(2 ^ 62) ≤ i) && decide (i < 2 ^ 62)

/-- what a piece of text means, as an expression, an argument list, a walk, a target, a statement, an index's bound -/
structure Den where
  E : M TV := badM
  P : M TV := badM
  A : M (List TV) := badM
  I : M (List D) := badM
  G : D → M Unit := fun _ => badM
  Gs : List (D → M Unit) := []
  gOk : Bool := false
  S : M Fl := badM
  O : M (Option Int) := badM

def isL : Sl → M Unit
  | .own (.list _) => M.pure ()
  | _ => badM
def rowsOf : List D → Option (List (List D))
  | [] => some []
  | .list ds :: r => (rowsOf r).map (ds :: ·)
  | _ :: _ => none
/-- a list that was just made, as data -/
def newL : TV → M D
  | .val (.own (.list ds)) => M.pure (.list ds)
  | _ => badM
def isL2 : Sl → M Unit
  | .own2 _ => M.pure ()
  | _ => badM
/-- a table that is made: every row a list of its own -/
def tblM (pins vs : List Nat) (it : M (List D)) (g : D → M Unit) (cond : M Bool) (body : M TV) : M (List (List D)) := do
  let xs ← it
  kills pins vs
  let ys ← noEx (lcLoop (fun x => do
      g x
      let r ← cond
      let y ← (if r = true then (do
        let t ← body
        let d ← newL t
        M.pure (some d)) else M.pure none)
      kills pins vs
      M.pure y) xs)
  let yss ← liftO (rowsOf ys)
  if ys.length < lim then M.pure yss else badM
/-- a list that was just made is not changed any more -/
def fz : TV → M TV
  | .val s => do let s' ← liftO s.share; M.pure (.val s')
  | .ref i => M.pure (.ref i)
def ofE (m : M TV) : Den := { E := m, P := do let t ← m; fz t, O := do let t ← m; let i ← intOf t; M.pure (some i) }

def den (sg : Sig) (call : Call) (pins : List Nat) : C → Den
  | .var i => ofE (fun e => match e[i]? with
      | some (some _) => .ok (.ref i) e
      | _ => .bad)
  | .mov i => ofE (if pins.contains i then badM else do
      let s ← getS i
      no2 s
      putS i none
      M.pure (.val s))
  | .int n => ofE (M.pure (.val (.imm (.int n))))
  | .bl b => ofE (M.pure (.val (.imm (.bool b))))
  | .non => ofE (M.pure (.val (.imm .none)))
  | .str s => ofE (M.pure (.val (.imm (.str s))))
  | .glob x => ofE (do let d ← liftO (sg.globs.lookup x); M.pure (.val (.imm d)))
  | .bin op a b => ofE (do
      let x ← (den sg call pins a).P
      let y ← (den sg call pins b).P
      let dx ← look x
      let dy ← look y
      let s ← liftO (binD op dx dy)
      M.pure (.val s))
  | .neg a => ofE (do
      let x ← (den sg call pins a).P
      let i ← intOf x
      M.pure (.val (.imm (.int (-i)))))
  | .cmp op a b => ofE (do
      let x ← (den sg call pins a).P
      let y ← (den sg call pins b).P
      let dx ← look x
      let dy ← look y
      let r ← liftO (cmpD op dx dy)
      M.pure (.val (.imm (.bool r))))
  | .chain o1 o2 a b c => ofE (do
      let x ← (den sg call pins a).P
      let y ← (den sg call pins b).P
      let dx ← look x
      let dy ← look y
      let r ← liftO (cmpD o1 dx dy)
      if r = true then do
        let z ← (den sg call pins c).P
        let dy ← look y
        let dz ← look z
        let r ← liftO (cmpD o2 dy dz)
        M.pure (.val (.imm (.bool r)))
      else M.pure (.val (.imm (.bool false))))
  | .and a b => ofE (do
      let x ← (den sg call pins a).P
      let r ← boolOf x
      if r = true then (do
        let y ← (den sg call pins b).P
        let r ← boolOf y
        M.pure (.val (.imm (.bool r)))) else M.pure (.val (.imm (.bool false))))
  | .or a b => ofE (do
      let x ← (den sg call pins a).P
      let r ← boolOf x
      if r = true then M.pure (.val (.imm (.bool true))) else (do
        let y ← (den sg call pins b).P
        let r ← boolOf y
        M.pure (.val (.imm (.bool r)))))
  | .not a => ofE (do
      let x ← (den sg call pins a).P
      let r ← boolOf x
      M.pure (.val (.imm (.bool (!r)))))
  | .ite c a b => ofE (do
      let x ← (den sg call pins c).P
      let r ← boolOf x
      if r = true then (den sg call pins a).E else (den sg call pins b).E)
  | .call f as => ofE (do
      let ts ← (den sg call pins as).A
      callM sg call pins f ts)
  | .bi f as => ofE (do
      let ts ← (den sg call pins as).A
      let ds ← looks ts
      let s ← liftO (biD f ds)
      M.pure (.val s))
  | .tup as => ofE (do
      let ts ← (den sg call pins as).A
      let ds ← shareDs pins ts
      if ds.length ≤ lim then M.pure (.val (.imm (.tuple ds))) else badM)
  | .lst as => ofE (do
      let ts ← (den sg call pins as).A
      let ds ← shareDs pins ts
      if ds.length ≤ lim then M.pure (.val (.own (.list ds))) else badM)
  | .idx a i => ofE (do
      let x ← (den sg call pins a).P
      let y ← (den sg call pins i).P
      let dx ← look x
      let k ← intOf y
      match dx with
      | .list xs => do let d ← liftO (atD xs k); M.pure (.val (.imm d))
      | .tuple xs => do let d ← liftO (atD xs k); M.pure (.val (.imm d))
      | .str z => if z.length ≤ lim then (do let c ← liftO (L2.atI z.cps.toList k); M.pure (.val (.imm (.str ⟨#[c]⟩)))) else badM
      | _ => badM)
  | .slc a lo hi => ofE (do
      let x ← (den sg call pins a).P
      let l ← (den sg call pins lo).O
      let h ← (den sg call pins hi).O
      let dx ← look x
      match dx with
      | .list xs => M.pure (.val (.own (.list (cutD xs l h))))
      | .tuple xs => M.pure (.val (.imm (.tuple (cutD xs l h))))
      | _ => badM)
  | .mxd a b => ofE (do
      let x ← (den sg call pins a).P
      let y ← (den sg call pins b).P
      let dx ← look x
      let k ← intOf y
      match dx with
      | .list xs => do let ns ← liftO (intsOf xs); M.pure (.val (.imm (.int (maxL k ns))))
      | _ => badM)
  | .isi a t => ofE (do
      let x ← (den sg call pins a).P
      let dx ← look x
      M.pure (.val (.imm (.bool (isiD t dx)))))
  | .lrv a => ofE (do
      let x ← (den sg call pins a).P
      let dx ← look x
      match dx with
      | .list xs => M.pure (.val (.own (.list xs.reverse)))
      | _ => badM)
  | .lrg a b => ofE (do
      let x ← (den sg call pins a).P
      let y ← (den sg call pins b).P
      let i ← intOf x
      let j ← intOf y
      if okI i = true ∧ okI j = true ∧ (j - i).toNat ≤ lim then M.pure (.val (.own (.list (rangeD i (j - i).toNat)))) else badM)
  | .lr1 a => ofE (do
      let x ← (den sg call pins a).P
      let j ← intOf x
      if okI j = true ∧ j.toNat ≤ lim then M.pure (.val (.own (.list (rangeD 0 j.toNat)))) else badM)
  | .popE i => ofE (do
      let s ← getS i
      match s with
      | .own (.list xs) => (match xs.getLast? with
        | some d => do putS i (some (.own (.list xs.dropLast))); M.pure (.val (.imm d))
        | none => badM)
      | _ => badM)
  | .lc vs tg it cond body => ofE (do
      let xs ← (den sg call pins it).I
      kills pins vs
      let ys ← noEx (lcLoop (fun x => do
          (den sg call pins tg).G x
          let c ← (den sg call pins cond).P
          let r ← boolOf c
          let y ← (if r = true then (do
            let t ← (den sg call pins body).P
            let d ← shareD pins t
            M.pure (some d)) else M.pure none)
          kills pins vs
          M.pure y) xs)
      if ys.length < lim then M.pure (.val (.own (.list ys))) else badM)
  | .nil => { A := M.pure [] }
  | .cons a as => { A := do
      let t ← (den sg call pins a).P
      let ts ← (den sg call pins as).A
      M.pure (t :: ts),
                    Gs := (den sg call pins a).G :: (den sg call pins as).Gs }
  | .no => { P := M.pure (.val (.imm (.bool true))), O := M.pure none }
  | .iE a => { I := do
      let x ← (den sg call pins a).P
      let d ← shareD pins x
      liftO (itemsOf d) }
  | .iR1 a => { I := do
      let x ← (den sg call pins a).P
      let n ← intOf x
      if okI n = true then M.pure (rangeD 0 n.toNat) else badM }
  | .iR2 a b => { I := do
      let x ← (den sg call pins a).P
      let y ← (den sg call pins b).P
      let i ← intOf x
      let j ← intOf y
      if okI i = true ∧ okI j = true then M.pure (rangeD i (j - i).toNat) else badM }
  | .iR3 a b c => { I := do
      let x ← (den sg call pins a).P
      let y ← (den sg call pins b).P
      let z ← (den sg call pins c).P
      let i ← intOf x
      let j ← intOf y
      let k ← intOf z
      if okI i = true ∧ okI j = true ∧ k = -1 then M.pure (downD i (i - j).toNat) else badM }
  | .iEn a => { I := do
      let x ← (den sg call pins a).P
      let d ← shareD pins x
      let xs ← liftO (itemsOf d)
      M.pure (enumD xs) }
  | .iZp a b => { I := do
      let x ← (den sg call pins a).P
      let y ← (den sg call pins b).P
      let d ← shareD pins x
      let d' ← shareD pins y
      liftO (zipO d d') }
  | .iRv a => { I := do
      let x ← (den sg call pins a).P
      let d ← shareD pins x
      let xs ← liftO (itemsOf d)
      M.pure xs.reverse }
  | .iRR a => { I := do
      let x ← (den sg call pins a).P
      let n ← intOf x
      if okI n = true then M.pure (downD ((n.toNat : Int) - 1) n.toNat) else badM }
  | .tN i => { G := fun d => store pins i (.imm d) }
  | .tT ts => { G := fun d => match d with
      | .tuple ds => stores (den sg call pins ts).Gs ds
      | .list ds => stores (den sg call pins ts).Gs ds
      | _ => badM }
  | .sNil => { S := M.pure .nx }
  | .sCons s r => { S := do
      let f ← (den sg call pins s).S
      match f with
      | .nx => (den sg call pins r).S
      | f => M.pure f }
  | .lc2 i vs tg it cond body => { S := do
      let yss ← tblM pins vs (den sg call pins it).I (den sg call pins tg).G (do let c ← (den sg call pins cond).P; boolOf c) (den sg call pins body).E
      store pins i (.own2 yss)
      M.pure .nx }
  | .st2 i ix jx e => { S := do
      let t ← (den sg call pins e).P
      let s1 ← getS i
      isL2 s1
      let y ← (den sg call pins ix).P
      let k ← intOf y
      let s0 ← getS i
      match s0 with
      | .own2 dss => do
        putS i none
        let n ← liftO (L2.ixN dss.length k)
        let z ← (den sg call pins jx).P
        let d ← shareD pins t
        let l ← intOf z
        let row ← liftO dss[n]?
        let m ← liftO (L2.ixN row.length l)
        putS i (some (.own2 (dss.set n (row.set m d))))
        M.pure .nx
      | _ => badM }
  | .lend h i ix body => { S := do
      let s1 ← getS i
      isL2 s1
      let y ← (den sg call pins ix).P
      let k ← intOf y
      let s0 ← getS i
      match s0 with
      | .own2 dss => do
        let n ← liftO (L2.ixN dss.length k)
        let row ← liftO dss[n]?
        store pins h (.own (.list row))
        putS i none
        let f ← (den sg call (h :: i :: pins) body).S
        match f with
        | .nx => do
          let s ← getS h
          match s with
          | .own (.list row') => do
            putS h none
            putS i (some (.own2 (dss.set n row')))
            M.pure .nx
          | _ => badM
        | _ => badM
      | _ => badM }
  | .new2 i => { S := do
      store pins i (.own2 [])
      M.pure .nx }
  | .app2 i e => { S := do
      let s0 ← getS i
      isL2 s0
      let t ← (den sg call pins e).E
      match t with
      | .val (.own (.list ds)) => do
        let s ← getS i
        match s with
        | .own2 dss => if dss.length < lim then (do putS i (some (.own2 (dss ++ [ds]))); M.pure .nx) else badM
        | _ => badM
      | _ => badM }
  | .appL i ix e => { S := do
      let s1 ← getS i
      isL2 s1
      let y ← (den sg call pins ix).P
      let k ← intOf y
      let s0 ← getS i
      match s0 with
      | .own2 dss => do
        putS i none
        let n ← liftO (L2.ixN dss.length k)
        let row ← liftO dss[n]?
        let t ← (den sg call pins e).P
        let d ← shareD pins t
        if row.length < lim then (do putS i (some (.own2 (dss.set n (row ++ [d])))); M.pure .nx) else badM
      | _ => badM }
  | .kil is => { S := do kills pins is; M.pure .nx }
  | .set i e => { S := do
      let t ← (den sg call pins e).E
      let s ← toStore pins t
      store pins i s
      M.pure .nx }
  | .asg tg e => { S := do
      let t ← (den sg call pins e).P
      let d ← shareD pins t
      noEx ((den sg call pins tg).G d)
      M.pure .nx }
  | .par i j a b => { S := do
      let x ← (den sg call pins a).P
      let y ← (den sg call pins b).P
      let s ← share pins x
      let t ← share pins y
      store pins i s
      store pins j t
      M.pure .nx }
  | .par3 i j k a b c => {}
  | .stI i ix e => { S := do
      let t ← (den sg call pins e).P
      let s0 ← getS i
      isL s0
      let y ← (den sg call pins ix).P
      let d ← shareD pins t
      let k ← intOf y
      let s ← getS i
      match s with
      | .own (.list xs) => (match L2.ixN xs.length k with
        | some n => do putS i (some (.own (.list (xs.set n d)))); M.pure .nx
        | none => badM)
      | _ => badM }
  | .app i e => { S := do
      let s0 ← getS i
      isL s0
      let t ← (den sg call pins e).P
      let d ← shareD pins t
      let s ← getS i
      match s with
      | .own (.list xs) => if xs.length < lim then (do putS i (some (.own (.list (xs ++ [d])))); M.pure .nx) else badM
      | _ => badM }
  | .extd i e => { S := do
      let s0 ← getS i
      isL s0
      let t ← (den sg call pins e).E
      match t with
      | .val (.own (.list ys)) => do
        let s ← getS i
        match s with
        | .own (.list xs) => if xs.length + ys.length ≤ lim then (do putS i (some (.own (.list (xs ++ ys)))); M.pure .nx) else badM
        | _ => badM
      | _ => badM }
  | .popS i => { S := do
      let s ← getS i
      match s with
      | .own (.list xs) => if xs ≠ [] then (do putS i (some (.own (.list xs.dropLast))); M.pure .nx) else badM
      | _ => badM }
  | .exS e => { S := do let _ ← (den sg call pins e).P; M.pure .nx }
  | .ifS c a b => { S := do
      let x ← (den sg call pins c).P
      let r ← boolOf x
      if r = true then (den sg call pins a).S else (den sg call pins b).S }
  | .forS tg it body => { S := do
      let xs ← (den sg call pins it).I
      forLoop (fun x => do noEx ((den sg call pins tg).G x); (den sg call pins body).S) xs }
  | .whl fuel c body => { S := whlLoop (do let x ← (den sg call pins c).P; boolOf x) (den sg call pins body).S fuel }
  | .ret e => { S := do
      let t ← (den sg call pins e).E
      let s ← toStore pins t
      M.pure (.rt s) }
  | .retN => { S := M.pure (.rt (.imm .none)) }
  | .brk => { S := M.pure .bk }
  | .cnt => { S := M.pure .ct }
  | .pass => { S := M.pure .nx }
  | .never => {}
  | .rse x as => { S := do
      let ts ← (den sg call pins as).A
      let ds ← shareDs pins ts
      raiseM sg x ds }
  | .tryS body c j su => { S := tryM sg pins c j su (den sg call pins body).S }
  | .rv1 a => ofE (do
      let x ← (den sg call pins a).P
      let dx ← look x
      match dx with
      | .list xs => M.pure (.val (.own (.list xs.reverse)))
      | .tuple xs => M.pure (.val (.imm (.tuple xs.reverse)))
      | _ => badM)

structure Def where
  slots : Nat
  body : C
structure Prog where
  sg : Sig
  defs : List (Str × Def)
/-- the places of the parameters that are changed in place -/
def pinsOf : List Bool → Nat → List Nat
  | [], _ => []
  | true :: r, k => k :: pinsOf r (k + 1)
  | false :: r, k => pinsOf r (k + 1)
def allSome : List (Option Sl) → Option (List Sl)
  | [] => some []
  | some s :: r => (allSome r).map (s :: ·)
  | none :: _ => none
/-- what stands in the parameters' places; of those that were not lent anything -/
def finOf : List Bool → Env → Option (List Sl)
  | [], _ => some []
  | true :: ms, some (.own d) :: e => (finOf ms e).map (.own d :: ·)
  | false :: ms, _ :: e => (finOf ms e).map (.imm .none :: ·)
  | _, _ => none
def runDef (sg : Sig) (call : Call) (ms : List Bool) (d : Def) (ss : List Sl) : FR :=
  if ss.length = ms.length then
    (match (den sg call (pinsOf ms 0) d.body).S (ss.map some ++ List.replicate (d.slots - ss.length) none) with
    | .ok (.rt s) e => (match finOf ms e with
      | some fin => .ok s fin
      | none => .bad)
    | .ok .nx e => (match finOf ms e with
      | some fin => .ok (.imm .none) fin
      | none => .bad)
    | .ok _ _ => .bad
    | .ex x e => (match finOf ms e with
      | some fin => .ex x fin
      | none => .bad)
    | .bad => .bad)
  else .bad
def evFn (p : Prog) : Nat → Call
  | 0 => fun _ _ => .bad
  | n + 1 => fun f ss => match p.sg.modes.lookup f, p.defs.lookup f with
    | some ms, some d => runDef p.sg (evFn p n) ms d ss
    | _, _ => .bad
end Ev
end
section
namespace Ev
open PySem PySem.Spec PyProof.Rows L2

open Classical in
noncomputable def hid (H : Hp) (Mu : Addr → Prop) : Hp := fun a => if Mu a then none else H a
theorem hid_some {H : Hp} {Mu : Addr → Prop} {a : Addr} {o : HO} : hid H Mu a = some o ↔ ¬ Mu a ∧ H a = some o := by
  unfold hid
  by_cases h : Mu a
  · rw [if_pos h]; simp [h]
  · rw [if_neg h]; simp [h]
abbrev Grows (G G' : Hp) : Prop := Evl.Ex G G'
theorem hid_le (H : Hp) (Mu : Addr → Prop) : Grows (hid H Mu) H := fun _ _ h => (hid_some.mp h).2

/-- a list: of the heap, or one of the module's own, plain -/
def SqP (K : PySem.W.Frag) (G : Hp) (a : Addr) (xs : List V) : Prop := Rd G a (.lst xs) ∨ ∃ (its : List Value) (n : Nat), K.lookup a = some { cls := .type "list", data := .seq its.toArray n } ∧ its.length ≤ sizeLine ∧ Vals xs its
theorem SqP.l {K : PySem.W.Frag} {G : Hp} {a : Addr} {xs : List V} (h : SqP K G a xs) : SqL K G a xs := by
  rcases h with h | ⟨its, n, e, z, r⟩
  · exact .inl h
  · exact .inr ⟨_, its.toArray, n, e, rfl, rfl, rfl, by simpa using z, by simpa using r⟩
theorem SqP.mono {K : PySem.W.Frag} {G G' : Hp} {a : Addr} {xs : List V} (e : Grows G G') (h : SqP K G a xs) : SqP K G' a xs := h.imp (Evl.ex_rd e) id
mutual
inductive Rp (K : PySem.W.Frag) (G : Hp) : V → D → Prop
  | non : Rp K G .non .none
  | bl (b : Bool) : Rp K G (.bl b) (.bool b)
  | int (i : Int) : Rp K G (.int i) (.int i)
  | str (x : Str) : Rp K G (.str x) (.str x)
  | lst {a : Addr} {xs : List V} {ds : List D} : SqP K G a xs → RpAll K G xs ds → Rp K G (.ref a) (.list ds)
  | tup {a : Addr} {xs : List V} {ds : List D} : SqT K G a xs → RpAll K G xs ds → Rp K G (.ref a) (.tuple ds)
inductive RpAll (K : PySem.W.Frag) (G : Hp) : List V → List D → Prop
  | nil : RpAll K G [] []
  | cons {v : V} {vs : List V} {d : D} {ds : List D} : Rp K G v d → RpAll K G vs ds → RpAll K G (v :: vs) (d :: ds)
end
section
variable {K : PySem.W.Frag} {G G' : Hp}
mutual
theorem Rp.mono (e : Grows G G') : ∀ (d : D) (v : V), Rp K G v d → Rp K G' v d
  | .none, _, h => by cases h; exact .non
  | .bool b, _, h => by cases h; exact .bl b
  | .int i, _, h => by cases h; exact .int i
  | .str x, _, h => by cases h; exact .str x
  | .list ds, _, h => by
    cases h with
    | lst hs ha => exact .lst (hs.mono e) (RpAll.mono e ds _ ha)
  | .tuple ds, _, h => by
    cases h with
    | tup hs ha => exact .tup (Evl.ex_t e hs) (RpAll.mono e ds _ ha)
  | .dict _, _, h => by cases h
theorem RpAll.mono (e : Grows G G') : ∀ (ds : List D) (vs : List V), RpAll K G vs ds → RpAll K G' vs ds
  | [], _, h => by cases h; exact .nil
  | d :: ds, _, h => by
    cases h with
    | cons h1 h2 => exact .cons (Rp.mono e d _ h1) (RpAll.mono e ds _ h2)
end
mutual
theorem Rp.dp : ∀ (d : D) (v : V), Rp K G v d → Dp K G v d
  | .none, _, h => by cases h; exact .non
  | .bool b, _, h => by cases h; exact .bl b
  | .int i, _, h => by cases h; exact .int i
  | .str x, _, h => by cases h; exact .str x
  | .list ds, _, h => by
    cases h with
    | lst hs ha => exact .lst hs.l (RpAll.dp ds _ ha)
  | .tuple ds, _, h => by
    cases h with
    | tup hs ha => exact .tup hs (RpAll.dp ds _ ha)
  | .dict _, _, h => by cases h
theorem RpAll.dp : ∀ (ds : List D) (vs : List V), RpAll K G vs ds → DpAll K G vs ds
  | [], _, h => by cases h; exact .nil
  | d :: ds, _, h => by
    cases h with
    | cons h1 h2 => exact .cons (Rp.dp d _ h1) (RpAll.dp ds _ h2)
end
theorem Rp.up {d : D} {v : V} (e : Grows G G') (h : Rp K G v d) : Rp K G' v d := Rp.mono e d v h
theorem RpAll.up {ds : List D} {vs : List V} (e : Grows G G') (h : RpAll K G vs ds) : RpAll K G' vs ds := RpAll.mono e ds vs h
theorem RpAll.length : ∀ {ds : List D} {vs : List V}, RpAll K G vs ds → vs.length = ds.length
  | [], _, h => by cases h; rfl
  | d :: ds, _, h => by
    cases h with
    | cons _ h2 => exact congrArg (· + 1) (RpAll.length h2)
theorem RpAll.get : ∀ {ds : List D} {vs : List V} {i : Nat} {d : D}, RpAll K G vs ds → ds[i]? = some d → ∃ v, vs[i]? = some v ∧ Rp K G v d
  | [], _, _, _, _, e => by simp at e
  | x :: ds, _, 0, d, h, e => by
    cases h with
    | cons h1 _ =>
      have e' : x = d := by simpa using e
      subst e'
      exact ⟨_, rfl, h1⟩
  | x :: ds, _, i + 1, d, h, e => by
    cases h with
    | cons _ h2 =>
      obtain ⟨v, e1, r⟩ := RpAll.get (i := i) h2 (by simpa using e)
      exact ⟨v, by simpa using e1, r⟩
theorem RpAll.app : ∀ {ds es : List D} {vs us : List V}, RpAll K G vs ds → RpAll K G us es → RpAll K G (vs ++ us) (ds ++ es)
  | [], _, _, _, h, r => by cases h; exact r
  | d :: ds, _, _, _, h, r => by
    cases h with
    | cons h1 h2 => exact .cons h1 (RpAll.app h2 r)
theorem RpAll.tk : ∀ {ds : List D} {vs : List V} (n : Nat), RpAll K G vs ds → RpAll K G (vs.take n) (ds.take n)
  | _, _, 0, _ => by simpa using RpAll.nil
  | [], _, n + 1, h => by cases h; exact .nil
  | d :: ds, _, n + 1, h => by
    cases h with
    | cons h1 h2 => exact .cons h1 (RpAll.tk n h2)
theorem RpAll.dr : ∀ {ds : List D} {vs : List V} (n : Nat), RpAll K G vs ds → RpAll K G (vs.drop n) (ds.drop n)
  | _, _, 0, h => h
  | [], _, n + 1, h => by cases h; exact .nil
  | d :: ds, _, n + 1, h => by
    cases h with
    | cons _ h2 => exact RpAll.dr n h2
theorem RpAll.put : ∀ {ds : List D} {vs : List V} {v : V} {d : D} (n : Nat), RpAll K G vs ds → Rp K G v d → RpAll K G (vs.set n v) (ds.set n d)
  | [], _, _, _, _, h, _ => by cases h; exact .nil
  | _ :: _, _, _, _, 0, h, r => by
    cases h with
    | cons _ h2 => exact .cons r h2
  | _ :: ds, _, _, _, n + 1, h, r => by
    cases h with
    | cons h1 h2 => exact .cons h1 (RpAll.put n h2 r)
theorem RpAll.rev : ∀ {ds : List D} {vs : List V}, RpAll K G vs ds → RpAll K G vs.reverse ds.reverse
  | [], _, h => by cases h; exact .nil
  | d :: ds, _, h => by
    cases h with
    | cons h1 h2 =>
      rw [List.reverse_cons, List.reverse_cons]
      exact (RpAll.rev h2).app (.cons h1 .nil)
theorem RpAll.rep {ds : List D} {vs : List V} (h : RpAll K G vs ds) : ∀ n, RpAll K G (List.replicate n vs).flatten (List.replicate n ds).flatten
  | 0 => .nil
  | n + 1 => by
    rw [List.replicate_succ, List.replicate_succ, List.flatten_cons, List.flatten_cons]
    exact h.app (RpAll.rep h n)
theorem RpAll.cut {ds : List D} {vs : List V} (h : RpAll K G vs ds) (lo hi : Option Int) : RpAll K G (cutV vs lo hi) (cutD ds lo hi) := by
  unfold cutV cutD
  rw [h.length]
  exact (h.dr _).tk _
theorem Rp.i {v : V} {i : Int} (h : Rp K G v (.int i)) : v = .int i := by cases h; rfl
theorem Rp.b {v : V} {b : Bool} (h : Rp K G v (.bool b)) : v = .bl b := by cases h; rfl
theorem Rp.s {v : V} {x : Str} (h : Rp K G v (.str x)) : v = .str x := by cases h; rfl
theorem Rp.n {v : V} (h : Rp K G v .none) : v = .non := by cases h; rfl
theorem Rp.isNon {v : V} {d : D} (h : Rp K G v d) : decide (v = .non) = isNone d := by
  cases h <;> rfl
theorem RpAll.ints : ∀ {ds : List D} {vs : List V} {ns : List Int}, RpAll K G vs ds → intsOf ds = some ns → vs = ns.map V.int
  | [], _, _, h, e => by
    cases h
    cases e
    rfl
  | .int i :: ds, _, ns, h, e => by
    cases h with
    | cons h1 h2 =>
      have e' : (intsOf ds).map (i :: ·) = some ns := e
      obtain ⟨r, e1, e2⟩ := Option.map_eq_some_iff.mp e'
      subst e2
      rw [h1.i, RpAll.ints h2 e1]
      rfl
  | .none :: _, _, _, _, e => by cases e
  | .bool _ :: _, _, _, _, e => by cases e
  | .str _ :: _, _, _, _, e => by cases e
  | .list _ :: _, _, _, _, e => by cases e
  | .tuple _ :: _, _, _, _, e => by cases e
  | .dict _ :: _, _, _, _, e => by cases e
theorem RpAll.bools : ∀ {ds : List D} {vs : List V} {ns : List Bool}, RpAll K G vs ds → boolsOf ds = some ns → vs = ns.map V.bl
  | [], _, _, h, e => by
    cases h
    cases e
    rfl
  | .bool i :: ds, _, ns, h, e => by
    cases h with
    | cons h1 h2 =>
      have e' : (boolsOf ds).map (i :: ·) = some ns := e
      obtain ⟨r, e1, e2⟩ := Option.map_eq_some_iff.mp e'
      subst e2
      rw [h1.b, RpAll.bools h2 e1]
      rfl
  | .none :: _, _, _, _, e => by cases e
  | .int _ :: _, _, _, _, e => by cases e
  | .str _ :: _, _, _, _, e => by cases e
  | .list _ :: _, _, _, _, e => by cases e
  | .tuple _ :: _, _, _, _, e => by cases e
  | .dict _ :: _, _, _, _, e => by cases e
end

/-- what is fixed through a def's body: the written part, the module's names, the places of the parameters that are changed in place, the slots at the entry, the exception that is handled -/
structure Gx where
  K : PySem.W.Frag
  mg : Str → Option Value
  pins : List Nat
  st0 : L2.St
  pn : List (Addr × Obj)
  gl : Str → Option D
/-- the fields of an exception -/
inductive FsOk (K : PySem.W.Frag) (G : Hp) : List (Str × V) → List (Str × D) → Prop
  | nil : FsOk K G [] []
  | cons {x : Str} {v : V} {d : D} {fs : List (Str × V)} {gs : List (Str × D)} : Rp K G v d → FsOk K G fs gs → FsOk K G ((x, v) :: fs) ((x, d) :: gs)
theorem FsOk.up {K : PySem.W.Frag} {G G' : Hp} (e : Grows G G') : ∀ {fs : List (Str × V)} {gs : List (Str × D)}, FsOk K G fs gs → FsOk K G' fs gs
  | _, _, .nil => .nil
  | _, _, .cons r t => .cons (r.up e) (FsOk.up e t)
/-- an exception in the air: its class, its own dict -/
def XOk (g : Gx) (cls : Value) (d : Option Addr) (x : Exn) (G : Hp) : Prop :=
  ∃ C dx fs, cls = .ref C ∧ g.mg x.cls = some (.ref C) ∧ d = some dx ∧ G dx = some (.xd fs) ∧ FsOk g.K G fs x.fs
/-- a caught one -/
def CaughtOk (g : Gx) (v : V) (x : Exn) (G : Hp) : Prop :=
  ∃ a oe, v = .ref a ∧ (a, oe) ∈ g.pn ∧ (∃ vs, oe.data = .fields vs) ∧ XOk g oe.cls oe.dict x G
/-- the rows of a table, each its own list -/
inductive Rows (K : PySem.W.Frag) (H : Hp) (Mu : Addr → Prop) : List V → List (List D) → Prop
  | nil : Rows K H Mu [] []
  | cons {q : Addr} {ws us : List V} {ds : List D} {dss : List (List D)} : Mu q → H q = some (.lst ws) → RpAll K (hid H Mu) ws ds → Rows K H Mu us dss → Rows K H Mu (.ref q :: us) (ds :: dss)
def SlOk (g : Gx) (H : Hp) (Mu : Addr → Prop) (v : V) : Sl → Prop
  | .imm d => Rp g.K (hid H Mu) v d
  | .own (.list ds) => ∃ p vs, v = .ref p ∧ Mu p ∧ H p = some (.lst vs) ∧ RpAll g.K (hid H Mu) vs ds
  | .own _ => False
  | .own2 dss => ∃ p us, v = .ref p ∧ Mu p ∧ H p = some (.lst us) ∧ us.Nodup ∧ V.ref p ∉ us ∧ Rows g.K H Mu us dss
  | .exc x => CaughtOk g v x (hid H Mu)
/-- the addresses that a slot's value owns -/
def OwnAt (H : Hp) : Sl → V → Addr → Prop
  | .own _, v, p => v = .ref p
  | .own2 _, v, p => v = .ref p ∨ ∃ r us, v = .ref r ∧ H r = some (.lst us) ∧ V.ref p ∈ us
  | _, _, _ => False
/-- the addresses that slots own -/
def Own (H : Hp) (env : Env) (σ : L2.St) (p : Addr) : Prop := ∃ (i : Nat) (s : Sl) (v : V), env[i]? = some (some s) ∧ σ[i]? = some (some v) ∧ OwnAt H s v p
theorem Own.mk {H : Hp} {env : Env} {σ : L2.St} {p : Addr} {i : Nat} {d : D} (e : env[i]? = some (some (.own d))) (es : σ[i]? = some (some (.ref p))) : Own H env σ p := ⟨i, _, _, e, es, rfl⟩
structure Sta (g : Gx) (env : Env) (σ : L2.St) (H : Hp) (Mu : Addr → Prop) : Prop where
  sl : ∀ (i : Nat) (s : Sl), env[i]? = some (some s) → ∃ v, σ[i]? = some (some v) ∧ SlOk g H Mu v s
  inj : ∀ (i j : Nat) (s t : Sl) (v w : V) (p : Addr), env[i]? = some (some s) → env[j]? = some (some t) → σ[i]? = some (some v) → σ[j]? = some (some w) → OwnAt H s v p → OwnAt H t w p → i = j
  mh : ∀ p, Mu p → H p ≠ none
  pin : ∀ k ∈ g.pins, σ[k]? = g.st0[k]?
  len : env.length = σ.length
/-- what a step may do: fresh things may be changed later on; what is owned elsewhere, and what is never changed, stays -/
structure Fr (O : Addr → Prop) (H : Hp) (Mu : Addr → Prop) (H' : Hp) (Mu' : Addr → Prop) : Prop where
  a : ∀ p, Mu' p → Mu p ∨ H p = none
  b : ∀ p, Mu p → ¬ O p → Mu' p ∧ H' p = H p
  c : ∀ p o, H p = some o → ¬ Mu p → H' p = some o
  e : ∀ p, H p ≠ none → H' p ≠ none
section
variable {O O1 : Addr → Prop} {H H1 H2 : Hp} {Mu M1 M2 : Addr → Prop}
theorem Fr.refl : Fr O H Mu H Mu := ⟨fun _ h => .inl h, fun _ h _ => ⟨h, rfl⟩, fun _ _ h _ => h, fun _ h => h⟩
theorem Fr.grows (f : Fr O H Mu H1 M1) : Grows (hid H Mu) (hid H1 M1) := fun p o h => by
  obtain ⟨h1, h2⟩ := hid_some.mp h
  refine hid_some.mpr ⟨fun m => ?_, f.c p o h2 h1⟩
  rcases f.a p m with q | q
  · exact h1 q
  · rw [h2] at q; cases q
theorem Fr.trans (mh : ∀ p, Mu p → H p ≠ none) (f : Fr O H Mu H1 M1) (k : Fr O1 H1 M1 H2 M2) (h : ∀ p, O1 p → O p ∨ H p = none) : Fr O H Mu H2 M2 where
  a := fun p m => by
    rcases k.a p m with q | q
    · exact f.a p q
    · refine .inr (Classical.byContradiction fun z => f.e p z q)
  b := fun p m o => by
    obtain ⟨m1, e1⟩ := f.b p m o
    have o1 : ¬ O1 p := fun z => (h p z).elim o (mh p m)
    obtain ⟨m2, e2⟩ := k.b p m1 o1
    exact ⟨m2, e2.trans e1⟩
  c := fun p o e m => k.c p o (f.c p o e m) fun m1 => (f.a p m1).elim m fun z => by rw [e] at z; cases z
  e := fun p h => k.e p (f.e p h)
theorem Fr.more (f : Fr O H Mu H1 M1) (h : ∀ p, O p → O1 p) : Fr O1 H Mu H1 M1 := ⟨f.a, fun p m o => f.b p m fun z => o (h p z), f.c, f.e⟩
end
structure Post (g : Gx) (env : Env) (σ : L2.St) (H : Hp) (Mu : Addr → Prop) (env' : Env) (σ' : L2.St) (H' : Hp) (Mu' : Addr → Prop) : Prop where
  st : Sta g env' σ' H' Mu'
  fr : Fr (Own H env σ) H Mu H' Mu'
  sub : ∀ p, Own H' env' σ' p → Own H env σ p ∨ H p = none
theorem Post.refl {g : Gx} {env : Env} {σ : L2.St} {H : Hp} {Mu : Addr → Prop} (s : Sta g env σ H Mu) : Post g env σ H Mu env σ H Mu := ⟨s, .refl, fun _ h => .inl h⟩
theorem Post.trans {g : Gx} {env env1 env2 : Env} {σ σ1 σ2 : L2.St} {H H1 H2 : Hp} {Mu M1 M2 : Addr → Prop} (s : Sta g env σ H Mu) (p : Post g env σ H Mu env1 σ1 H1 M1) (q : Post g env1 σ1 H1 M1 env2 σ2 H2 M2) : Post g env σ H Mu env2 σ2 H2 M2 :=
  ⟨q.st, p.fr.trans s.mh q.fr p.sub, fun a h => (q.sub a h).elim (p.sub a) fun z => .inr (Classical.byContradiction fun n => p.fr.e a n z)⟩
def TVOk (g : Gx) (env : Env) (σ : L2.St) (H : Hp) (Mu : Addr → Prop) (v : V) : TV → Prop
  | .val (.own d) => SlOk g H Mu v (.own d) ∧ ∀ p, v = .ref p → ¬ Own H env σ p
  | .val (.own2 _) => False
  | .val s => SlOk g H Mu v s
  | .ref i => σ[i]? = some (some v)
def Org (env : Env) (σ : L2.St) (H : Hp) (v : V) : TV → Prop
  | .val (.own _) => ∀ p, v = .ref p → Own H env σ p ∨ H p = none
  | _ => True

section
variable {g : Gx} {env env1 env2 : Env} {σ σ1 σ2 : L2.St} {H H1 H2 : Hp} {Mu M1 M2 : Addr → Prop} {v : V}
theorem SlOk.imm_up {d : D} (h : SlOk g H Mu v (.imm d)) (f : Fr (Own H env σ) H Mu H1 M1) : SlOk g H1 M1 v (.imm d) := Rp.up f.grows h
theorem XOk.up {G G' : Hp} {cls : Value} {d : Option Addr} {x : Exn} (e : Grows G G') (h : XOk g cls d x G) : XOk g cls d x G' := by
  obtain ⟨C, dx, fs, h1, h2, h3, h4, h5⟩ := h
  exact ⟨C, dx, fs, h1, h2, h3, e _ _ h4, h5.up e⟩
theorem CaughtOk.up {G G' : Hp} {x : Exn} (e : Grows G G') (h : CaughtOk g v x G) : CaughtOk g v x G' := by
  obtain ⟨a, oe, h1, h2, h3, h4⟩ := h
  exact ⟨a, oe, h1, h2, h3, h4.up e⟩
theorem Rows.up {O : Addr → Prop} {us : List V} {dss : List (List D)} (h : Rows g.K H Mu us dss) (f : Fr O H Mu H1 M1) (no : ∀ q, V.ref q ∈ us → ¬ O q) : Rows g.K H1 M1 us dss := by
  induction h with
  | nil => exact .nil
  | cons m e r t ih =>
    obtain ⟨m1, e1⟩ := f.b _ m (no _ (List.mem_cons_self ..))
    exact .cons m1 (e1.trans e) (r.up f.grows) (ih fun q hq => no q (List.mem_cons_of_mem _ hq))
theorem Rows.at_ {us : List V} {dss : List (List D)} {i : Nat} {ds : List D} (h : Rows g.K H Mu us dss) (e : dss[i]? = some ds) : ∃ q ws, us[i]? = some (.ref q) ∧ Mu q ∧ H q = some (.lst ws) ∧ RpAll g.K (hid H Mu) ws ds := by
  induction h generalizing i with
  | nil => simp at e
  | cons m e1 r t ih =>
    cases i with
    | zero =>
      have e' := e
      simp only [List.getElem?_cons_zero, Option.some.injEq] at e'
      subst e'
      exact ⟨_, _, rfl, m, e1, r⟩
    | succ i => exact ih (i := i) (by simpa using e)
theorem Rows.mem {us : List V} {dss : List (List D)} {u : V} (h : Rows g.K H Mu us dss) (e : u ∈ us) : ∃ q ws, u = .ref q ∧ Mu q ∧ H q = some (.lst ws) := by
  induction h with
  | nil => cases e
  | cons m e1 r t ih =>
    rcases List.mem_cons.mp e with rfl | e
    · exact ⟨_, _, rfl, m, e1⟩
    · exact ih e
theorem Rows.length {us : List V} {dss : List (List D)} (h : Rows g.K H Mu us dss) : us.length = dss.length := by
  induction h with
  | nil => rfl
  | cons _ _ _ _ ih => exact congrArg (· + 1) ih
/-- a slot's value that is not owned within O stays -/
theorem SlOk.up {O : Addr → Prop} {s : Sl} (h : SlOk g H Mu v s) (f : Fr O H Mu H1 M1) (no : ∀ p, OwnAt H s v p → ¬ O p) : SlOk g H1 M1 v s := by
  cases s with
  | imm d => exact Rp.up f.grows h
  | exc x => exact CaughtOk.up f.grows h
  | own d =>
    cases d with
    | list ds =>
      obtain ⟨p, vs, rfl, m, e, r⟩ := h
      obtain ⟨m1, e1⟩ := f.b p m (no p rfl)
      exact ⟨p, vs, rfl, m1, e1.trans e, r.up f.grows⟩
    | _ => exact h.elim
  | own2 dss =>
    obtain ⟨p, us, rfl, m, e, n1, n2, r⟩ := h
    obtain ⟨m1, e1⟩ := f.b p m (no p (.inl rfl))
    exact ⟨p, us, rfl, m1, e1.trans e, n1, n2, r.up f fun q hq => no q (.inr ⟨p, us, rfl, e, hq⟩)⟩
theorem SlOk.at_up {O : Addr → Prop} {s : Sl} {p : Addr} (h : SlOk g H Mu v s) (f : Fr O H Mu H1 M1) (no : ∀ p, OwnAt H s v p → ¬ O p) (o : OwnAt H1 s v p) : OwnAt H s v p := by
  cases s with
  | imm d => exact o
  | exc x => exact o
  | own d => exact o
  | own2 dss =>
    rcases o with o | ⟨r, us, rfl, e, hp⟩
    · exact .inl o
    · obtain ⟨p', us', e1, m, e2, _⟩ := h
      cases e1
      have e3 := (f.b r m (no r (.inl rfl))).2
      rw [e3] at e
      exact .inr ⟨r, us, rfl, e, hp⟩
theorem TVOk.up {t : TV} (h : TVOk g env σ H Mu v t) (p : Post g env σ H Mu env1 σ H1 M1) (mu : ∀ d, t = .val (.own d) → ∀ q, v = .ref q → H q ≠ none) : TVOk g env1 σ H1 M1 v t := by
  cases t with
  | ref i => exact h
  | val s =>
    cases s with
    | imm d => exact SlOk.up (s := .imm d) h p.fr fun _ e => e.elim
    | exc x => exact SlOk.up (s := .exc x) h p.fr fun _ e => e.elim
    | own2 d => exact h.elim
    | own d =>
      obtain ⟨h1, h2⟩ := h
      refine ⟨h1.up p.fr fun q e => h2 q e, fun q e z => ?_⟩
      rcases p.sub q z with y | y
      · exact h2 q e y
      · exact mu d rfl q e y
theorem SlOk.there {d : D} (h : SlOk g H Mu v (.own d)) : ∃ p vs ds, v = .ref p ∧ d = .list ds ∧ Mu p ∧ H p = some (.lst vs) ∧ RpAll g.K (hid H Mu) vs ds := by
  cases d with
  | list ds =>
    obtain ⟨p, vs, e, m, hp, r⟩ := h
    exact ⟨p, vs, ds, e, rfl, m, hp, r⟩
  | _ => exact h.elim
theorem TVOk.there {d : D} (h : TVOk g env σ H Mu v (.val (.own d))) : ∀ q, v = .ref q → H q ≠ none := fun q e z => by
  obtain ⟨p, vs, ds, e1, _, _, hp, _⟩ := h.1.there
  rw [e1] at e
  cases e
  rw [hp] at z
  cases z
theorem TVOk.up' {t : TV} (h : TVOk g env σ H Mu v t) (p : Post g env σ H Mu env1 σ H1 M1) : TVOk g env1 σ H1 M1 v t :=
  h.up p fun d e => by subst e; exact TVOk.there h
/-- what a value tells now -/
def Now (g : Gx) (H : Hp) (Mu : Addr → Prop) (v : V) (d : D) : Prop := Rp g.K (hid H Mu) v d ∨ ∃ p vs ds, v = .ref p ∧ d = .list ds ∧ H p = some (.lst vs) ∧ RpAll g.K (hid H Mu) vs ds
theorem Now.rp {d : D} (h : Now g H Mu v d) : Rp g.K H v d := by
  rcases h with h | ⟨p, vs, ds, rfl, rfl, e, r⟩
  · exact h.up (hid_le _ _)
  · exact .lst (.inl (.inl e)) (r.up (hid_le _ _))
theorem Now.list {ds : List D} (h : Now g H Mu v (.list ds)) : ∃ p vs, v = .ref p ∧ SqP g.K H p vs ∧ RpAll g.K (hid H Mu) vs ds := by
  rcases h with h | ⟨p, vs, ds', rfl, e1, e, r⟩
  · cases h with
    | lst hs ha => exact ⟨_, _, rfl, hs.mono (hid_le _ _), ha⟩
  · cases e1
    exact ⟨p, vs, rfl, .inl (.inl e), r⟩
theorem Now.tuple {ds : List D} (h : Now g H Mu v (.tuple ds)) : ∃ p vs, v = .ref p ∧ SqT g.K H p vs ∧ SqT g.K (hid H Mu) p vs ∧ RpAll g.K (hid H Mu) vs ds := by
  rcases h with h | ⟨p, vs, ds', rfl, e1, e, r⟩
  · cases h with
    | tup hs ha => exact ⟨_, _, rfl, Evl.ex_t (hid_le _ _) hs, hs, ha⟩
  · cases e1
theorem SlOk.now {s : Sl} {d : D} (h : SlOk g H Mu v s) (e : s.data = some d) : Now g H Mu v d := by
  cases s with
  | imm d' => cases e; exact .inl h
  | exc x => cases e
  | own2 x => cases e
  | own d' =>
    cases e
    obtain ⟨p, vs, ds, e1, e2, m, hp, r⟩ := h.there
    exact .inr ⟨p, vs, ds, e1, e2, hp, r⟩
end

def wpR {α : Type} (r : Res α) (Q : α → Env → Prop) (E : Exn → Env → Prop) : Prop := match r with
  | .ok a e => Q a e
  | .ex x e => E x e
  | .bad => False
section
variable {α β : Type} {Q Q' : α → Env → Prop} {E E' : Exn → Env → Prop}
theorem wpR_mono {r : Res α} (h : wpR r Q E) (hq : ∀ a e, Q a e → Q' a e) (he : ∀ x e, E x e → E' x e) : wpR r Q' E' := by
  cases r with
  | ok a e => exact hq a e h
  | ex x e => exact he x e h
  | bad => exact h
theorem wpR_bind {m : M α} {f : α → M β} {R : β → Env → Prop} {e : Env} : wpR ((m >>= f) e) R E ↔ wpR (m e) (fun a e' => wpR (f a e') R E) E := by
  show wpR (M.bind m f e) R E ↔ _
  unfold M.bind
  cases m e <;> rfl
theorem wpR_pure {a : α} {e : Env} : wpR (M.pure a e) Q E ↔ Q a e := Iff.rfl
theorem wpR_lift {o : Option α} {e : Env} : wpR (liftO o e) Q E ↔ ∃ a, o = some a ∧ Q a e := by
  cases o with
  | none => exact ⟨fun h => h.elim, fun ⟨_, h, _⟩ => nomatch h⟩
  | some a => exact ⟨fun h => ⟨a, rfl, h⟩, fun ⟨b, h, q⟩ => by cases h; exact q⟩
theorem wpR_bad {e : Env} : ¬ wpR ((badM : M α) e) Q E := fun h => h
theorem wpR_getS {Q : Sl → Env → Prop} {i : Nat} {e : Env} : wpR (getS i e) Q E ↔ ∃ s, e[i]? = some (some s) ∧ Q s e := by
  unfold getS
  cases h : e[i]? with
  | none => exact ⟨fun q => q.elim, fun ⟨_, q, _⟩ => nomatch q⟩
  | some o =>
    cases o with
    | none => exact ⟨fun q => q.elim, fun ⟨_, q, _⟩ => nomatch q⟩
    | some s => exact ⟨fun q => ⟨s, rfl, q⟩, fun ⟨_, q, r⟩ => by cases q; exact r⟩
theorem wpR_ite {c : Prop} [Decidable c] {m k : M α} {e : Env} : wpR ((if c then m else k) e) Q E ↔ (if c then wpR (m e) Q E else wpR (k e) Q E) := by
  split <;> rfl
end
end Ev
end
section
namespace Ev
open PySem PySem.Spec PyProof.Rows L2

section
variable {g : Gx} {env env1 env2 : Env} {σ σ1 σ2 : L2.St} {H H1 H2 : Hp} {Mu M1 M2 : Addr → Prop} {v : V} {q : Addr} {o : HO}

theorem Fr.newI {O : Addr → Prop} (mh : ∀ p, Mu p → H p ≠ none) (n : H q = none) : Fr O H Mu (upd H q o) Mu where
  a := fun p m => .inl m
  b := fun p m _ => ⟨m, upd_ne fun z => mh p m (by rw [z]; exact n)⟩
  c := fun p u e m => by rw [upd_ne (ne_of_none e n)]; exact e
  e := fun p h => by
    by_cases z : p = q
    · rw [z, upd_same]; simp
    · rw [upd_ne z]; exact h
theorem Fr.newM {O : Addr → Prop} (mh : ∀ p, Mu p → H p ≠ none) (n : H q = none) : Fr O H Mu (upd H q o) (fun p => Mu p ∨ p = q) where
  a := fun p m => m.elim .inl fun z => .inr (by rw [z]; exact n)
  b := fun p m _ => ⟨.inl m, upd_ne fun z => mh p m (by rw [z]; exact n)⟩
  c := fun p u e m => by rw [upd_ne (ne_of_none e n)]; exact e
  e := fun p h => by
    by_cases z : p = q
    · rw [z, upd_same]; simp
    · rw [upd_ne z]; exact h
theorem Sta.at_up {O : Addr → Prop} (s : Sta g env σ H Mu) (f : Fr O H Mu H1 M1) (no : ∀ p, Own H env σ p → ¬ O p) {i : Nat} {a : Sl} {v : V} {p : Addr} (e1 : env[i]? = some (some a)) (e2 : σ[i]? = some (some v)) (o : OwnAt H1 a v p) : OwnAt H a v p := by
  obtain ⟨u, e3, h⟩ := s.sl i a e1
  rw [e2] at e3
  have e4 : v = u := Option.some.inj (Option.some.inj e3)
  subst e4
  exact h.at_up f (fun q oq => no q ⟨i, a, v, e1, e2, oq⟩) o
/-- the slots stand through a step that leaves what they own -/
theorem Sta.up {O : Addr → Prop} (s : Sta g env σ H Mu) (f : Fr O H Mu H1 M1) (no : ∀ p, Own H env σ p → ¬ O p) (mh : ∀ p, M1 p → H1 p ≠ none) : Sta g env σ H1 M1 :=
  ⟨fun i sl e => by
    obtain ⟨v, e1, h⟩ := s.sl i sl e
    exact ⟨v, e1, h.up f fun p o => no p ⟨i, sl, v, e, e1, o⟩⟩, fun i j a b v w p e1 e2 e3 e4 o1 o2 => s.inj i j a b v w p e1 e2 e3 e4 (s.at_up f no e1 e3 o1) (s.at_up f no e2 e4 o2), mh, s.pin, s.len⟩
theorem Sta.own_up {O : Addr → Prop} (s : Sta g env σ H Mu) (f : Fr O H Mu H1 M1) (no : ∀ p, Own H env σ p → ¬ O p) {p : Addr} (o : Own H1 env σ p) : Own H env σ p := by
  obtain ⟨i, a, v, e1, e2, o⟩ := o
  exact ⟨i, a, v, e1, e2, s.at_up f no e1 e2 o⟩

theorem Sta.own_new (s : Sta g env σ H Mu) (n : H q = none) {p : Addr} (h : Own (upd H q o) env σ p) : Own H env σ p :=
  s.own_up (O := fun _ => False) (Fr.newI (O := fun _ => False) (o := o) s.mh n) (fun _ _ z => z) h
theorem Sta.newI (s : Sta g env σ H Mu) (n : H q = none) : Sta g env σ (upd H q o) Mu :=
  s.up (O := fun _ => False) (Fr.newI s.mh n) (fun _ _ z => z) fun p m => (Fr.newI (O := fun _ => False) s.mh n).e p (s.mh p m)
theorem Sta.newM (s : Sta g env σ H Mu) (n : H q = none) : Sta g env σ (upd H q o) (fun p => Mu p ∨ p = q) :=
  s.up (O := fun _ => False) (Fr.newM s.mh n) (fun _ _ z => z) fun p m => m.elim (fun m => (Fr.newM (O := fun _ => False) s.mh n).e p (s.mh p m)) fun z => by rw [z, upd_same]; simp
theorem Post.newI (s : Sta g env σ H Mu) (p : Post g env σ H Mu env1 σ1 H1 M1) (n : H1 q = none) : Post g env σ H Mu env1 σ1 (upd H1 q o) M1 :=
  p.trans s ⟨p.st.newI n, Fr.newI p.st.mh n, fun _ h => .inl (p.st.own_up (O := fun _ => False) (Fr.newI (O := fun _ => False) (o := o) p.st.mh n) (fun _ _ z => z) h)⟩
theorem Post.newM (s : Sta g env σ H Mu) (p : Post g env σ H Mu env1 σ1 H1 M1) (n : H1 q = none) : Post g env σ H Mu env1 σ1 (upd H1 q o) (fun a => M1 a ∨ a = q) :=
  p.trans s ⟨p.st.newM n, Fr.newM p.st.mh n, fun _ h => .inl (p.st.own_up (O := fun _ => False) (Fr.newM (O := fun _ => False) (o := o) p.st.mh n) (fun _ _ z => z) h)⟩
theorem Sta.own_some (s : Sta g env σ H Mu) {p : Addr} (h : Own H env σ p) : H p ≠ none ∧ Mu p := by
  obtain ⟨i, a, v, e1, e2, o⟩ := h
  obtain ⟨u, e3, hs⟩ := s.sl i _ e1
  rw [e2] at e3
  have e4 : v = u := Option.some.inj (Option.some.inj e3)
  subst e4
  cases a with
  | imm d => exact o.elim
  | exc x => exact o.elim
  | own d =>
    obtain ⟨p', vs, ds, ev, _, m, hp, _⟩ := hs.there
    have e5 : v = .ref p := o
    rw [ev] at e5
    cases e5
    exact ⟨by rw [hp]; simp, m⟩
  | own2 dss =>
    obtain ⟨p', us, ev, m, hp, _, _, r⟩ := hs
    rcases o with o | ⟨r', us', e5, e6, hm⟩
    · rw [ev] at o
      cases o
      exact ⟨by rw [hp]; simp, m⟩
    · rw [ev] at e5
      cases e5
      rw [hp] at e6
      cases e6
      obtain ⟨q, ws, e7, mq, hq⟩ := r.mem hm
      cases e7
      exact ⟨by rw [hq]; simp, mq⟩

theorem look_ok {t : TV} {R : D → Env → Prop} {X : Exn → Env → Prop} (s : Sta g env σ H Mu) (h : TVOk g env σ H Mu v t) (w : wpR (look t env) R X) : ∃ d, Now g H Mu v d ∧ R d env := by
  cases t with
  | val sl =>
    obtain ⟨d, e, r⟩ := wpR_lift.mp w
    refine ⟨d, SlOk.now (s := sl) ?_ e, r⟩
    cases sl with
    | own d => exact h.1
    | own2 d => exact h.elim
    | imm d => exact h
    | exc x => exact h
  | ref i =>
    obtain ⟨sl, e1, w⟩ := wpR_getS.mp (wpR_bind.mp w)
    obtain ⟨d, e2, r⟩ := wpR_lift.mp w
    obtain ⟨u, e3, hs⟩ := s.sl i sl e1
    have e4 : v = u := Option.some.inj (Option.some.inj (h.symm.trans e3))
    subst e4
    exact ⟨d, hs.now e2, r⟩
theorem intOf_ok {t : TV} {R : Int → Env → Prop} {X : Exn → Env → Prop} (s : Sta g env σ H Mu) (h : TVOk g env σ H Mu v t) (w : wpR (intOf t env) R X) : ∃ i, v = .int i ∧ R i env := by
  obtain ⟨d, n, w⟩ := look_ok s h (wpR_bind.mp w)
  cases d with
  | int i => exact ⟨i, n.rp.i, w⟩
  | _ => exact w.elim
theorem boolOf_ok {t : TV} {R : Bool → Env → Prop} {X : Exn → Env → Prop} (s : Sta g env σ H Mu) (h : TVOk g env σ H Mu v t) (w : wpR (boolOf t env) R X) : ∃ b, v = .bl b ∧ R b env := by
  obtain ⟨d, n, w⟩ := look_ok s h (wpR_bind.mp w)
  cases d with
  | bool b => exact ⟨b, n.rp.b, w⟩
  | _ => exact w.elim

/-- an own thing that is never changed again -/
theorem Fr.froze {O : Addr → Prop} {p0 : Addr} (o0 : O p0) : Fr O H Mu H (fun p => Mu p ∧ p ≠ p0) where
  a := fun p m => .inl m.1
  b := fun p m no => ⟨⟨m, fun z => no (by rw [z]; exact o0)⟩, rfl⟩
  c := fun p u e _ => e
  e := fun p h => h
theorem SlOk.froze {O : Addr → Prop} {p0 : Addr} {s : Sl} (h : SlOk g H Mu v s) (no : ¬ OwnAt H s v p0) : SlOk g H (fun p => Mu p ∧ p ≠ p0) v s :=
  h.up (O := fun p => p = p0) (Fr.froze (O := fun p => p = p0) rfl) fun p o z => no (by rw [← z]; exact o)
theorem getset {α : Type} {l : List α} {i j : Nat} {a b : α} (h : (l.set i a)[j]? = some b) : (j = i ∧ i < l.length ∧ b = a) ∨ (j ≠ i ∧ l[j]? = some b) := by
  by_cases e : j = i
  · subst e
    by_cases hl : j < l.length
    · rw [List.getElem?_set_self hl] at h
      exact .inl ⟨rfl, hl, (Option.some.inj h).symm⟩
    · rw [List.getElem?_eq_none (by simpa using hl)] at h
      cases h
  · rw [List.getElem?_set_ne (Ne.symm e)] at h
    exact .inr ⟨e, h⟩
/-- operands: what is not owned by a temporary -/
def TVP (g : Gx) (σ : L2.St) (H : Hp) (Mu : Addr → Prop) (v : V) : TV → Prop
  | .val (.imm d) => Rp g.K (hid H Mu) v d
  | .val (.exc x) => CaughtOk g v x (hid H Mu)
  | .val (.own _) => False
  | .val (.own2 _) => False
  | .ref i => σ[i]? = some (some v)
theorem TVP.up {t : TV} (h : TVP g σ H Mu v t) (e : Grows (hid H Mu) (hid H1 M1)) : TVP g σ H1 M1 v t := by
  cases t with
  | ref i => exact h
  | val s =>
    cases s with
    | imm d => exact Rp.up e h
    | exc x => exact CaughtOk.up e h
    | own d => exact h.elim
    | own2 d => exact h.elim
theorem TVP.ok {t : TV} (h : TVP g σ H Mu v t) : TVOk g env σ H Mu v t := by
  cases t with
  | ref i => exact h
  | val s =>
    cases s with
    | imm d => exact h
    | exc x => exact h
    | own d => exact h.elim
    | own2 d => exact h.elim
/-- a list that a temporary owned is not changed any more -/
theorem Post.frozeTemp {p : Addr} (s : Sta g env σ H Mu) (P : Post g env σ H Mu env1 σ1 H1 M1) (n1 : ¬ Own H1 env1 σ1 p) (n2 : Own H env σ p ∨ H p = none) : Post g env σ H Mu env1 σ1 H1 (fun q => M1 q ∧ q ≠ p) where
  st := P.st.up (O := fun q => q = p) (Fr.froze (O := fun q => q = p) rfl) (fun q o e => n1 (by rw [← e]; exact o)) fun q m => P.st.mh q m.1
  fr := ⟨fun q m => P.fr.a q m.1, fun q m o => ⟨⟨(P.fr.b q m o).1, fun e => by
      subst e
      exact n2.elim o (s.mh q m)⟩, (P.fr.b q m o).2⟩, P.fr.c, P.fr.e⟩
  sub := P.sub
/-- own things that are never changed again -/
theorem Fr.frozeAll {O F : Addr → Prop} (o0 : ∀ p, F p → O p) : Fr O H Mu H (fun p => Mu p ∧ ¬ F p) where
  a := fun p m => .inl m.1
  b := fun p m no => ⟨⟨m, fun z => no (o0 p z)⟩, rfl⟩
  c := fun p u e _ => e
  e := fun p h => h
/-- a slot's value, when nobody changes it any more -/
theorem SlOk.shared {s t : Sl} (h : SlOk g H Mu v s) (e : s.share = some t) : SlOk g H (fun p => Mu p ∧ ¬ OwnAt H s v p) v t ∧ (∀ d, t ≠ .own d) ∧ ∀ d, t ≠ .own2 d := by
  have f : Fr (OwnAt H s v) H Mu H (fun p => Mu p ∧ ¬ OwnAt H s v p) := Fr.frozeAll fun _ z => z
  cases s with
  | imm d =>
    cases e
    exact ⟨Rp.up f.grows h, fun _ z => (nomatch z), fun _ z => (nomatch z)⟩
  | exc x =>
    cases e
    exact ⟨CaughtOk.up f.grows h, fun _ z => (nomatch z), fun _ z => (nomatch z)⟩
  | own d =>
    cases d with
    | list ds =>
      cases e
      obtain ⟨p, vs, rfl, m, hp, r⟩ := h
      exact ⟨Rp.lst (.inl (.inl (hid_some.mpr ⟨fun z => z.2 rfl, hp⟩))) (r.up f.grows), fun _ z => (nomatch z), fun _ z => (nomatch z)⟩
    | _ => exact h.elim
  | own2 dss =>
    cases e
    obtain ⟨p, us, rfl, m, hp, n1, n2, r⟩ := h
    have hr : ∀ (us' : List V) (dss' : List (List D)), Rows g.K H Mu us' dss' → (∀ u ∈ us', u ∈ us) → RpAll g.K (hid H (fun q => Mu q ∧ ¬ OwnAt H (.own2 dss) (.ref p) q)) us' (dss'.map .list) := by
      intro us' dss' r'
      induction r' with
      | nil => exact fun _ => .nil
      | cons mq hq rq t ih =>
        intro hm
        refine .cons (Rp.lst (.inl (.inl (hid_some.mpr ⟨fun z => z.2 (.inr ⟨p, us, rfl, hp, hm _ (List.mem_cons_self ..)⟩), hq⟩))) (rq.up f.grows)) (ih fun u hu => hm u (List.mem_cons_of_mem _ hu))
    exact ⟨Rp.lst (.inl (.inl (hid_some.mpr ⟨fun z => z.2 (.inl rfl), hp⟩))) (hr us dss r fun _ z => z), fun _ z => (nomatch z), fun _ z => (nomatch z)⟩
/-- the slot i gets something that nobody changes; what it owned is not changed any more -/
theorem Post.frozeSlot {i : Nat} {s0 t : Sl} (s : Sta g env σ H Mu) (e : env[i]? = some (some s0)) (es : σ[i]? = some (some v)) (hs : s0.share = some t) :
    Post g env σ H Mu (env.set i (some t)) σ H (fun q => Mu q ∧ ¬ OwnAt H s0 v q) := by
  obtain ⟨u, e3, h0⟩ := s.sl i s0 e
  rw [es] at e3
  have e4 : v = u := Option.some.inj (Option.some.inj e3)
  subst e4
  obtain ⟨h1, h2, h3⟩ := h0.shared hs
  have nt : ∀ w q, ¬ OwnAt H t w q := fun w q o => by
    cases t with
    | imm d => exact o
    | exc x => exact o
    | own d => exact h2 d rfl
    | own2 d => exact h3 d rfl
  have fz : Fr (OwnAt H s0 v) H Mu H (fun q => Mu q ∧ ¬ OwnAt H s0 v q) := Fr.frozeAll fun _ z => z
  refine ⟨⟨fun j sl ej => ?_, fun j k a b w w' q ej ek sj sk oj ok => ?_, fun q m => s.mh q m.1, s.pin, by rw [List.length_set]; exact s.len⟩, Fr.frozeAll fun q o => ⟨i, s0, v, e, es, o⟩, fun q o => .inl ?_⟩
  · rcases getset ej with ⟨rfl, _, e'⟩ | ⟨ne, ej'⟩
    · have e2 : sl = t := Option.some.inj e'
      subst e2
      exact ⟨_, es, h1⟩
    · obtain ⟨w, ev, hw⟩ := s.sl j sl ej'
      exact ⟨w, ev, hw.up fz fun q oq z => ne (s.inj j i _ _ _ _ q ej' e ev es oq z)⟩
  · rcases getset ej with ⟨rfl, _, e'⟩ | ⟨_, ej'⟩
    · have e2 : a = t := Option.some.inj e'
      subst e2
      exact (nt _ _ oj).elim
    · rcases getset ek with ⟨rfl, _, e'⟩ | ⟨_, ek'⟩
      · have e2 : b = t := Option.some.inj e'
        subst e2
        exact (nt _ _ ok).elim
      · exact s.inj j k a b w w' q ej' ek' sj sk oj ok
  · obtain ⟨j, a, w, ej, sj, oj⟩ := o
    rcases getset ej with ⟨rfl, _, e'⟩ | ⟨_, ej'⟩
    · have e2 : a = t := Option.some.inj e'
      subst e2
      exact (nt _ _ oj).elim
    · exact ⟨j, a, w, ej', sj, oj⟩
theorem pins_of {i : Nat} (h : g.pins.contains i = false) : i ∉ g.pins := fun z => by
  have := List.contains_iff_mem.mpr z
  rw [h] at this
  cases this
/-- a value is handed on for good -/
theorem share_ok {t : TV} {R : Sl → Env → Prop} {X : Exn → Env → Prop} (s : Sta g env σ H Mu) (h : TVP g σ H Mu v t) (w : wpR (share g.pins t env) R X) :
    ∃ sl env1 M1, R sl env1 ∧ Post g env σ H Mu env1 σ H M1 ∧ SlOk g H M1 v sl ∧ (∀ d, sl ≠ .own d) ∧ ∀ d, sl ≠ .own2 d := by
  cases t with
  | val sl =>
    obtain ⟨s', e, r⟩ := wpR_lift.mp w
    cases sl with
    | imm d => cases e; exact ⟨_, _, _, r, .refl s, h, fun d z => (nomatch z), fun d z => (nomatch z)⟩
    | exc x => cases e; exact ⟨_, _, _, r, .refl s, h, fun d z => (nomatch z), fun d z => (nomatch z)⟩
    | own d => exact h.elim
    | own2 d => exact h.elim
  | ref i =>
    obtain ⟨sl, e1, w⟩ := wpR_getS.mp (wpR_bind.mp w)
    obtain ⟨u, e3, hs⟩ := s.sl i sl e1
    have e4 : v = u := Option.some.inj (Option.some.inj (h.symm.trans e3))
    subst e4
    -- a slot's own
    have own : ∀ t, sl.share = some t → g.pins.contains i = false → R t (env.set i (some t)) → ∃ sl env1 M1, R sl env1 ∧ Post g env σ H Mu env1 σ H M1 ∧ SlOk g H M1 v sl ∧ (∀ d, sl ≠ .own d) ∧ ∀ d, sl ≠ .own2 d := fun t et _ r =>
      ⟨t, _, _, r, Post.frozeSlot s e1 e3 et, hs.shared et⟩
    cases sl with
    | imm d => exact ⟨_, _, _, w, .refl s, hs, fun d z => (nomatch z), fun d z => (nomatch z)⟩
    | exc x => exact ⟨_, _, _, w, .refl s, hs, fun d z => (nomatch z), fun d z => (nomatch z)⟩
    | own d =>
      cases hc : g.pins.contains i with
      | true =>
        simp only [hc, if_true] at w
        exact w.elim
      | false =>
        simp only [hc, Bool.false_eq_true, if_false] at w
        obtain ⟨t, et, w⟩ := wpR_lift.mp (wpR_bind.mp w)
        exact own t et hc w
    | own2 d =>
      cases hc : g.pins.contains i with
      | true =>
        simp only [hc, if_true] at w
        exact w.elim
      | false =>
        simp only [hc, Bool.false_eq_true, if_false] at w
        obtain ⟨t, et, w⟩ := wpR_lift.mp (wpR_bind.mp w)
        exact own t et hc w
theorem shareD_ok {t : TV} {R : D → Env → Prop} {X : Exn → Env → Prop} (s : Sta g env σ H Mu) (h : TVP g σ H Mu v t) (w : wpR (shareD g.pins t env) R X) :
    ∃ d env1 M1, R d env1 ∧ Post g env σ H Mu env1 σ H M1 ∧ Rp g.K (hid H M1) v d := by
  obtain ⟨sl, env1, M1, w, P, hs, no, no2⟩ := share_ok s h (wpR_bind.mp w)
  obtain ⟨d, e, r⟩ := wpR_lift.mp w
  cases sl with
  | own2 d' => exact (no2 d' rfl).elim
  | imm d' => cases e; exact ⟨_, _, _, r, P, hs⟩
  | own d' => exact (no d' rfl).elim
  | exc x => cases e
end
end Ev
end
section
namespace Ev
open PySem PySem.Spec PyProof.Rows L2

theorem OpR.either {X : Cx} {f : Value → Value → Sem Value} {r r' : R2} (h : OpR X f r) (h' : OpR X f r') : OpR X f (fun x y H Q => r x y H Q ∨ r' x y H Q) :=
  fun pins s σ H x y v u Q I rx ry q => q.elim (h pins s σ H x y v u Q I rx ry) (h' pins s σ H x y v u Q I rx ry)
section
variable {X : Cx}
theorem rdl {pins : List (Addr × Obj)} {σ : L2.St} {H : Hp} {s : Shared} {l : Addr} {xs : List V} (I : L2.Inv X pins σ H s) (h : SqP X.K H l xs) :
    ∃ (its : List Value) (n : Nat), Vals xs its ∧ xs.length = its.length ∧ s.heap.get? l = some { cls := .type "list", data := .seq its.toArray n } := by
  rcases h with h | ⟨its, n, e, _, r⟩
  · obtain ⟨_, its, n, r, e⟩ := h.ok I.hok
    exact ⟨its, n, r, r.length, e⟩
  · exact ⟨its, n, r, r.length, I.kIn l _ e⟩
/-- list + list -/
def rCatR (K : PySem.W.Frag) : R2 := fun x y H Q => ∃ l b xs zs, x = .ref l ∧ y = .ref b ∧ SqP K H l xs ∧ SqP K H b zs ∧ xs.length + zs.length ≤ sizeLine ∧ ∀ p, H p = none → Q (.ref p) (upd H p (.lst (xs ++ zs)))
theorem op_catR : OpR X (binaryOp .Add) (rCatR X.K) := by
  intro pins s σ H x y v u Q I rx ry h
  obtain ⟨l, b, xs, zs, rfl, rfl, hl, hb, hz, q⟩ := h
  obtain ⟨i1, n1, r1, z1, e1⟩ := rdl I hl
  obtain ⟨i2, n2, r2, z2, e2⟩ := rdl I hb
  cases rx; cases ry
  refine PySem.P.add_list e1 e2 ?_ (by simp only [List.size_toArray]; omega)
  rw [show i1.toArray ++ i2.toArray = (i1 ++ i2).toArray by simp]
  refine ⟨.ref _, _, I.lnew (t' := s.toks) (r1.append r2) ?_, rfl, q _ I.fresh⟩
  simp only [List.length_append]; omega
/-- list * int -/
def rRepR (K : PySem.W.Frag) : R2 := fun x y H Q => ∃ l k xs, x = .ref l ∧ y = .int k ∧ SqP K H l xs ∧ k ≤ 100000 ∧ -100000 ≤ k ∧ xs.length * k.toNat ≤ sizeLine ∧ ∀ p, H p = none → Q (.ref p) (upd H p (.lst (List.replicate k.toNat xs).flatten))
theorem rep_arr (its : List Value) (k : Int) : List.foldl (fun x1 x2 => x1 ++ x2) #[] (List.replicate (if its.toArray.isEmpty = true then 0 else k.toNat) its.toArray) = (List.replicate k.toNat its).flatten.toArray := by
  have f0 : ∀ m : Nat, List.foldl (fun x1 x2 => x1 ++ x2) #[] (List.replicate m its.toArray) = (List.replicate m its).flatten.toArray := fun m => by
    simpa using foldl_rep its m []
  rw [f0]
  cases its <;> simp
theorem op_repR : OpR X (binaryOp .Mult) (rRepR X.K) := by
  intro pins s σ H x y v u Q I rx ry h
  obtain ⟨l, k, xs, rfl, rfl, hl, k1, k2, hz, q⟩ := h
  obtain ⟨its, n, r, z, e⟩ := rdl I hl
  cases rx
  obtain ⟨t, rfl⟩ := ry
  have sz : its.toArray.size * k.toNat ≤ sizeLine := by simp only [List.size_toArray]; rw [← z]; exact hz
  have lineLow : (sizeLine : Nat) ≤ (2 ^ 63 - 1) / 8 := by decide
  have c1 : ¬ its.toArray.size * k.toNat > (2 ^ 63 - 1) / 8 := by omega
  have c2 : ¬ (!Builtin.List.listFitsIndex k) = true := by rw [fitsIndex_both (by omega) (by omega)]; decide
  have c3 : ¬ Builtin.List.listTooLong (its.toArray.size * k.toNat) = true := by rw [notLongL sz]; decide
  have inner := AutoListH.list___mul___list_int_3 l its.toArray n k t c2 c1 c3
  refine wpAny_binaryOp_repeat_ref (T := "list") (U := "int") (by decide) ⟨_, e, rfl⟩ (fun s' => typeIs_int s' k t) noFill_list_mul F.fills_int_mul F.slot_int_rmul repeat_list F.slot_int_index.lookup ?_
  refine call_meets F.slot_int_rmul (typeIs_int s k t) F.entry_int_rmul (F.args_int_rmul_2 _ _) (int___rmul___int_list k t l its.toArray n) ⟨e, rfl, ⟨_, e, rfl⟩, ?_⟩
  refine call_meets F.slot_list_mul ⟨_, e, rfl⟩ F.entry_list_mul (F.args_list_mul_2 _ _) inner ⟨e, ?_⟩
  rw [rep_arr]
  refine ⟨.ref _, _, I.lnew (t' := s.toks) (r.rep k.toNat) ?_, rfl, q _ I.fresh⟩
  rw [PyProof.Rows.lm_len_rep_flat, Nat.mul_comm]
  exact hz
def opB : Bop → Operator
  | .add => .Add | .sub => .Sub | .mul => .Mult | .div => .FloorDiv | .mod => .Mod | .pow => .Pow
def opC : Cop → CmpOp
  | .eq => .Eq | .ne => .NotEq | .lt => .Lt | .le => .LtE | .gt => .Gt | .ge => .GtE | .isN => .Is | .notN => .IsNot | .inn => .In | .nin => .NotIn
abbrev rAddS : R2 := fun x y H Q => ∃ i j, x = V.str i ∧ y = V.str j ∧ i.length + j.length ≤ sizeLine ∧ Q (V.str (i ++ j)) H
def binR (K : PySem.W.Frag) : Bop → R2
  | .add => fun x y H Q => (rI0 fun i j => V.int (i + j)) x y H Q ∨ (rAddS x y H Q ∨ (rCatR K x y H Q ∨ rCatA K x y H Q))
  | .sub => rI0 fun i j => V.int (i - j)
  | .mul => fun x y H Q => (rI (fun i j => CMul i j ∨ CMulX i j) fun i j => V.int (i * j)) x y H Q ∨ (rRepR K x y H Q ∨ rRepT K x y H Q)
  | .div => rI CDivN fun i j => V.int (i.fdiv j)
  | .mod => rI (fun _ j => j ≠ 0) fun i j => V.int (i.fmod j)
  | .pow => rI CPow fun i j => V.int (i ^ j.toNat)
theorem op_bin (op : Bop) : OpR X (binaryOp (opB op)) (binR X.K op) := by
  cases op
  · exact OpR.either op_add (OpR.either op_add_str (OpR.either op_catR op_catA))
  · exact op_sub
  · exact OpR.either (opI fun _ _ _ _ _ _ _ hc q => mul_int q (hc.elim CMul.ok CMulX.ok)) (OpR.either op_repR op_repT)
  · exact op_fdivN
  · exact op_modN
  · exact op_pow
/-- is, is not of a truth -/
def nbV : V → Bool
  | .non => true
  | .bl _ => true
  | .int _ => true
  | .str _ => true
  | .ref _ => true
  | _ => false
def rIsT : R2 := fun x y H Q => ∃ b, y = .bl b ∧ nbV x = true ∧ Q (.bl (decide (x = .bl b))) H
def rNotT : R2 := fun x y H Q => ∃ b, y = .bl b ∧ nbV x = true ∧ Q (.bl (!decide (x = .bl b))) H
theorem op_isT : OpR X (compareOp .Is) rIsT := by
  intro pins s σ H x y v u Q I rx ry h
  obtain ⟨b, rfl, nb, q⟩ := h
  cases (show u = Value.bool b from ry)
  have no : x ≠ .bl b → plainIs v (.bool b) = true → v ≠ .bool b → wpAny (model X.prog X.w) X.A (compareOp .Is v (.bool b)) (EP X pins σ Q) X.xe s := fun ne hp hv =>
    wpAny_is_other hp hv ⟨.bl false, H, I, rfl, by simpa [ne] using q⟩
  cases x with
  | non => cases rx; exact no (fun z => nomatch z) rfl (fun z => nomatch z)
  | bl a =>
    cases (show v = Value.bool a from rx)
    by_cases e : a = b
    · subst e
      exact wpAny_is_self rfl ⟨.bl true, H, I, rfl, by simpa using q⟩
    · exact no (fun z => e (V.bl.inj z)) rfl fun z => e (Value.bool.inj z)
  | int i => obtain ⟨t, rfl⟩ := rx; exact no (fun z => nomatch z) rfl (fun z => nomatch z)
  | str i => obtain ⟨t, rfl⟩ := rx; exact no (fun z => nomatch z) rfl (fun z => nomatch z)
  | ref a => cases rx; exact no (fun z => nomatch z) rfl (fun z => nomatch z)
  | _ => cases nb
theorem op_notT : OpR X (compareOp .IsNot) rNotT := by
  intro pins s σ H x y v u Q I rx ry h
  obtain ⟨b, rfl, nb, q⟩ := h
  cases (show u = Value.bool b from ry)
  have no : x ≠ .bl b → plainIs v (.bool b) = true → v ≠ .bool b → wpAny (model X.prog X.w) X.A (compareOp .IsNot v (.bool b)) (EP X pins σ Q) X.xe s := fun ne hp hv =>
    wpAny_isNot_other hp hv ⟨.bl true, H, I, rfl, by simpa [ne] using q⟩
  cases x with
  | non => cases rx; exact no (fun z => nomatch z) rfl (fun z => nomatch z)
  | bl a =>
    cases (show v = Value.bool a from rx)
    by_cases e : a = b
    · subst e
      exact wpAny_isNot_self rfl ⟨.bl false, H, I, rfl, by simpa using q⟩
    · exact no (fun z => e (V.bl.inj z)) rfl fun z => e (Value.bool.inj z)
  | int i => obtain ⟨t, rfl⟩ := rx; exact no (fun z => nomatch z) rfl (fun z => nomatch z)
  | str i => obtain ⟨t, rfl⟩ := rx; exact no (fun z => nomatch z) rfl (fun z => nomatch z)
  | ref a => cases rx; exact no (fun z => nomatch z) rfl (fun z => nomatch z)
  | _ => cases nb
/-- x in a tuple -/
def rInDT (K : PySem.W.Frag) : R2 := fun x y H Q => ∃ d ds, Dp K H x d ∧ Dp K H y (.tuple ds) ∧ SeqAt.shaped d = true ∧ SeqAt.shaped (.tuple ds) = true ∧ Q (.bl (inD d ds)) H
def rNotInDT (K : PySem.W.Frag) : R2 := fun x y H Q => ∃ d ds, Dp K H x d ∧ Dp K H y (.tuple ds) ∧ SeqAt.shaped d = true ∧ SeqAt.shaped (.tuple ds) = true ∧ Q (.bl (!inD d ds)) H
theorem op_inDT (hu : X.A.units + 65 < cLine) : OpR X (compareOp .In) (rInDT X.K) := by
  intro pins s σ H x y v u Q I rx ry h
  obtain ⟨d, ds, hd, he, sd, se, q⟩ := h
  obtain ⟨as, r1⟩ := Dp.reads I d x v hd rx
  obtain ⟨bs, r2⟩ := Dp.reads I (.tuple ds) y u he ry
  exact SeqAt.in_tuple_reads r2 r1 (SeqAt.canLay_of_shaped se) (SeqAt.canLay_of_shaped sd) (room_in_shaped sd hu) ⟨.bl _, H, I, rfl, q⟩
theorem op_notInDT (hu : X.A.units + 65 < cLine) : OpR X (compareOp .NotIn) (rNotInDT X.K) := by
  intro pins s σ H x y v u Q I rx ry h
  obtain ⟨d, ds, hd, he, sd, se, q⟩ := h
  obtain ⟨as, r1⟩ := Dp.reads I d x v hd rx
  obtain ⟨bs, r2⟩ := Dp.reads I (.tuple ds) y u he ry
  exact SeqAt.notIn_tuple_reads r2 r1 (SeqAt.canLay_of_shaped se) (SeqAt.canLay_of_shaped sd) (room_in_shaped sd hu) ⟨.bl _, H, I, rfl, q⟩
def cmpR (K : PySem.W.Frag) : Cop → R2
  | .eq => rEqD K
  | .ne => rNeD K
  | .lt => rI0 fun i j => V.bl (decide (i < j))
  | .le => rI0 fun i j => V.bl (decide (i ≤ j))
  | .gt => rI0 fun i j => V.bl (decide (j < i))
  | .ge => rI0 fun i j => V.bl (decide (j ≤ i))
  | .isN => fun x y H Q => (y = V.non ∧ Q (V.bl (decide (x = V.non))) H) ∨ rIsT x y H Q
  | .notN => fun x y H Q => (y = V.non ∧ Q (V.bl !decide (x = V.non)) H) ∨ rNotT x y H Q
  | .inn => fun x y H Q => rInD K x y H Q ∨ rInDT K x y H Q
  | .nin => fun x y H Q => rNotInD K x y H Q ∨ rNotInDT K x y H Q
theorem op_cmp (hu : X.A.units + 65 < cLine) (op : Cop) : OpR X (compareOp (opC op)) (cmpR X.K op) := by
  cases op
  · exact op_eqD (by omega)
  · exact op_neD (by omega)
  · exact op_lt
  · exact op_le
  · exact op_gt
  · exact op_ge
  · exact OpR.either op_isN op_isT
  · exact OpR.either op_notN op_notT
  · exact OpR.either (op_inD hu) (op_inDT hu)
  · exact OpR.either (op_notInD hu) (op_notInDT hu)
end

theorem Rp.nb {K : PySem.W.Frag} {G : Hp} {v : V} {d : D} (h : Rp K G v d) : nbV v = true := by cases h <;> rfl
theorem Rp.isBl {K : PySem.W.Frag} {G : Hp} {v : V} {d : D} {b : Bool} (h : Rp K G v d) : decide (v = .bl b) = isBool b d := by
  cases h with
  | bl c => cases c <;> cases b <;> rfl
  | _ => rfl

section
variable {g : Gx} {env env1 env2 : Env} {σ σ1 σ2 : L2.St} {H H1 H2 : Hp} {Mu M1 M2 : Addr → Prop} {v w : V}
def Ans (g : Gx) (env : Env) (σ : L2.St) (H : Hp) (Mu : Addr → Prop) (env2 : Env) (s : Sl) (Q : VK) : Prop :=
  ∀ v H' Mu', Post g env σ H Mu env2 σ H' Mu' → TVOk g env2 σ H' Mu' v (.val s) → Org env σ H v (.val s) → Q v H'
theorem lim_line {n : Nat} (h : n ≤ lim) : n ≤ sizeLine := Nat.le_trans h (by decide)
theorem Ans.im {d : D} {Q : VK} (h : Ans g env σ H Mu env2 (.imm d) Q) (P : Post g env σ H Mu env2 σ H2 M2) (r : Rp g.K (hid H2 M2) v d) : Q v H2 := h v H2 M2 P r trivial
theorem Ans.list {ds : List D} {vs : List V} {Q : VK} (h : Ans g env σ H Mu env2 (.own (.list ds)) Q) (st : Sta g env σ H Mu) (P : Post g env σ H Mu env2 σ H2 M2) (r : RpAll g.K (hid H2 M2) vs ds) (q : Addr) (n : H2 q = none) : Q (.ref q) (upd H2 q (.lst vs)) := by
  have f : Fr (fun _ => False) H2 M2 (upd H2 q (.lst vs)) (fun a => M2 a ∨ a = q) := Fr.newM P.st.mh n
  refine h _ _ (fun a => M2 a ∨ a = q) (P.newM st n) ⟨⟨q, vs, rfl, .inr rfl, upd_same, r.up f.grows⟩, fun p e o => ?_⟩ fun p e => .inr ?_
  · cases e
    exact (P.st.own_some (P.st.own_new n o)).1 n
  · cases e
    exact Classical.byContradiction fun z => P.fr.e _ z n
theorem Ans.tup {ds : List D} {vs : List V} {Q : VK} (h : Ans g env σ H Mu env2 (.imm (.tuple ds)) Q) (st : Sta g env σ H Mu) (P : Post g env σ H Mu env2 σ H2 M2) (r : RpAll g.K (hid H2 M2) vs ds) (q : Addr) (n : H2 q = none) : Q (.ref q) (upd H2 q (.tup vs)) := by
  have f : Fr (fun _ => False) H2 M2 (upd H2 q (.tup vs)) M2 := Fr.newI P.st.mh n
  refine h _ _ M2 (P.newI st n) ?_ trivial
  exact Rp.tup (.inl (.inl (hid_some.mpr ⟨fun m => P.st.mh q m n, upd_same⟩))) (r.up f.grows)
theorem lt_log {n : Nat} (h : n.log2 < 4096) : n < 2 ^ 4096 := by
  by_cases e : n = 0
  · rw [e]
    exact Nat.two_pow_pos _
  · exact (Nat.log2_lt e).mp h
theorem bin_use {op : Bop} {dx dy : D} {s : Sl} {Q : VK} (st : Sta g env σ H Mu) (P : Post g env σ H Mu env2 σ H2 M2) (nx : Now g H2 M2 v dx) (ny : Now g H2 M2 w dy) (e : binD op dx dy = some s) (h : Ans g env σ H Mu env2 s Q) : binR g.K op v w H2 Q := by
  have int2 : ∀ {i j : Int}, dx = .int i → dy = .int j → binR g.K op v w H2 Q := fun {i j} ex ey => by
    subst ex ey
    have vi := nx.rp.i
    have wj := ny.rp.i
    subst vi wj
    have e' : (binI op i j).map (fun k => Sl.imm (.int k)) = some s := e
    obtain ⟨k, e1, e2⟩ := Option.map_eq_some_iff.mp e'
    subst e2
    have fin : ∀ {k' : Int}, k' = k → Q (.int k') H2 := fun {k'} ek => by subst ek; exact h.im P (.int _)
    cases op
    · exact .inl ⟨i, j, rfl, rfl, fin (Option.some.inj e1)⟩
    · exact ⟨i, j, rfl, rfl, fin (Option.some.inj e1)⟩
    · simp only [binI] at e1
      split at e1
      · rename_i c
        exact .inl ⟨i, j, rfl, rfl, c.imp id fun z => mulx_ok (lt_log z.1) (lt_log z.2) (by decide), fin (Option.some.inj e1)⟩
      · cases e1
    · simp only [binI] at e1
      split at e1
      · rename_i c
        exact ⟨i, j, rfl, rfl, c, fin (Option.some.inj e1)⟩
      · cases e1
    · simp only [binI] at e1
      split at e1
      · rename_i c
        exact ⟨i, j, rfl, rfl, c, fin (Option.some.inj e1)⟩
      · cases e1
    · simp only [binI] at e1
      split at e1
      · rename_i c
        exact ⟨i, j, rfl, rfl, c, fin (Option.some.inj e1)⟩
      · cases e1
  unfold binD at e
  split at e
  · exact int2 rfl rfl
  · rename_i x y
    split at e
    · rename_i c
      cases e
      have vx := nx.rp.s
      have wy := ny.rp.s
      subst vx wy
      exact .inr (.inl ⟨x, y, rfl, rfl, lim_line c, h.im P (.str _)⟩)
    · cases e
  · rename_i xs ys
    split at e
    · rename_i c
      cases e
      obtain ⟨p, vs, rfl, hp, r⟩ := nx.list
      obtain ⟨p', vs', rfl, hp', r'⟩ := ny.list
      refine .inr (.inr (.inl ⟨p, p', vs, vs', rfl, rfl, hp, hp', ?_, fun q n => h.list st P (r.app r') q n⟩))
      rw [r.length, r'.length]
      exact lim_line c
    · cases e
  · rename_i xs ys
    split at e
    · rename_i c
      cases e
      obtain ⟨p, vs, rfl, hp, hp2, r⟩ := nx.tuple
      obtain ⟨p', vs', rfl, hp', hp2', r'⟩ := ny.tuple
      refine .inr (.inr (.inr ⟨p, p', vs, vs', rfl, rfl, hp, hp', ?_, fun z => ?_, fun _ z => ?_, fun _ _ q n => h.tup st P (r.app r') q n⟩))
      · rw [r.length, r'.length]
        exact lim_line c
      · subst z
        cases r
        exact h.im P (.tup hp2' r')
      · subst z
        cases r'
        rw [List.append_nil] at h
        exact h.im P (.tup hp2 r)
    · cases e
  · rename_i xs k
    split at e
    · rename_i c
      cases e
      obtain ⟨p, vs, rfl, hp, r⟩ := nx.list
      have wk := ny.rp.i
      subst wk
      refine .inr (.inl ⟨p, k, vs, rfl, rfl, hp, c.1, c.2.1, ?_, fun q n => h.list st P (r.rep _) q n⟩)
      rw [r.length]
      exact lim_line c.2.2
    · cases e
  · rename_i xs k
    split at e
    · rename_i c
      cases e
      obtain ⟨p, vs, rfl, hp, hp2, r⟩ := nx.tuple
      have wk := ny.rp.i
      subst wk
      refine .inr (.inr ⟨p, k, vs, rfl, rfl, hp, fun z => c.1 ?_, c.2.1, c.2.2.1, ?_, fun q n => h.tup st P (r.rep _) q n⟩)
      · subst z
        cases r
        rfl
      · rw [r.length]
        omega
    · cases e
  · cases e
theorem cmp_use {op : Cop} {dx dy : D} {b : Bool} {Q : VK} (nx : Now g H2 M2 v dx) (ny : Now g H2 M2 w dy) (e : cmpD op dx dy = some b) (h : Q (.bl b) H2) : cmpR g.K op v w H2 Q := by
  have int2 : ∀ {i j : Int} {f : Int → Int → Bool}, dx = .int i → dy = .int j → some (f i j) = some b → (rI0 fun i j => V.bl (f i j)) v w H2 Q := fun {i j f} ex ey ee => by
    subst ex ey
    have vi := nx.rp.i
    have wj := ny.rp.i
    subst vi wj
    have e' : f i j = b := Option.some.inj ee
    refine ⟨i, j, rfl, rfl, ?_⟩
    show Q (.bl (f i j)) H2
    rw [e']
    exact h
  unfold cmpD at e
  split at e
  · split at e
    · rename_i c
      cases e
      exact ⟨_, _, nx.rp.dp, ny.rp.dp, c.1, c.2, h⟩
    · cases e
  · split at e
    · rename_i c
      cases e
      exact ⟨_, _, nx.rp.dp, ny.rp.dp, c.1, c.2, h⟩
    · cases e
  · exact int2 rfl rfl e
  · exact int2 rfl rfl e
  · exact int2 rfl rfl e
  · exact int2 rfl rfl e
  · cases e
    have wn := ny.rp.n
    subst wn
    refine .inl ⟨rfl, ?_⟩
    rw [nx.rp.isNon]
    exact h
  · cases e
    have wn := ny.rp.n
    subst wn
    refine .inl ⟨rfl, ?_⟩
    rw [nx.rp.isNon]
    exact h
  · cases e
    have wn := ny.rp.b
    subst wn
    refine .inr ⟨_, rfl, nx.rp.nb, ?_⟩
    rw [nx.rp.isBl]
    exact h
  · cases e
    have wn := ny.rp.b
    subst wn
    refine .inr ⟨_, rfl, nx.rp.nb, ?_⟩
    rw [nx.rp.isBl]
    exact h
  · split at e
    · rename_i c
      cases e
      exact .inl ⟨_, _, nx.rp.dp, ny.rp.dp, c.1, c.2, h⟩
    · cases e
  · split at e
    · rename_i c
      cases e
      exact .inl ⟨_, _, nx.rp.dp, ny.rp.dp, c.1, c.2, h⟩
    · cases e
  · split at e
    · rename_i c
      cases e
      exact .inr ⟨_, _, nx.rp.dp, ny.rp.dp, c.1, c.2, h⟩
    · cases e
  · split at e
    · rename_i c
      cases e
      exact .inr ⟨_, _, nx.rp.dp, ny.rp.dp, c.1, c.2, h⟩
    · cases e
  · cases e
end
end Ev
end
section
namespace Ev
open PySem PySem.Spec PyProof.Rows L2

theorem PE.imp {X : Cx} {e : Expr} {t t' : TE} (h : ∀ σ H Q, t' σ H Q → t σ H Q) (p : PE X e t) : PE X e t' := ⟨fun pins s σ H Q I w => p.run pins s σ H Q I (h σ H Q w)⟩
theorem PT.imp {X : Cx} {e : Expr} {t t' : TT} (h : ∀ σ H Q, t' σ H Q → t σ H Q) (p : PT X e t) : PT X e t' := ⟨fun pins s σ H Q I w => p.run pins s σ H Q I (h σ H Q w)⟩
theorem PW.imp {X : Cx} {e : Expr} {t t' : TT} (h : ∀ σ H Q, t' σ H Q → t σ H Q) (p : PW X e t) : PW X e t' := ⟨fun wh pins s σ H Q I w => p.run wh pins s σ H Q I (h σ H Q w)⟩
theorem PA.imp {X : Cx} {e : List Expr} {t t' : TA} (h : ∀ σ H Q, t' σ H Q → t σ H Q) (p : PA X e t) : PA X e t' := ⟨fun pos pins s σ H Q I w => p.run pos pins s σ H Q I (h σ H Q w)⟩
theorem PS.imp {X : Cx} {e : Stmt} {t t' : TS} (h : ∀ D σ H, t' D σ H → t D σ H) (p : PS X e t) : PS X e t' := ⟨fun pins s σ H D I w => p.run pins s σ H D I (h D σ H w)⟩
theorem PSs.imp {X : Cx} {e : List Stmt} {t t' : TS} (h : ∀ D σ H, t' D σ H → t D σ H) (p : PSs X e t) : PSs X e t' := ⟨fun pins s σ H D I w => p.run pins s σ H D I (h D σ H w)⟩
theorem PG.imp {X : Cx} {e : Expr} {t t' : TG} (h : ∀ v σ H Q, t' v σ H Q → t v σ H Q) (p : PG X e t) : PG X e t' := ⟨fun pins s σ H v u Q I r w => p.run pins s σ H v u Q I r (h v σ H Q w)⟩
theorem PGs.imp {X : Cx} {e : List Expr} {t t' : TGs} (h : ∀ v σ H Q, t' v σ H Q → t v σ H Q) (p : PGs X e t) : PGs X e t' := ⟨fun pins s σ H v u Q I r w => p.run pins s σ H v u Q I r (h v σ H Q w)⟩
theorem PI.imp {X : Cx} {tg e : Expr} {t t' : TI} (h : ∀ σ H R, t' σ H R → t σ H R) (p : PI X tg e t) : PI X tg e t' := ⟨fun pins s σ H R I w => p.run pins s σ H R I (h σ H R w)⟩

/-- what is wished of an exception, from a state -/
def ExP (g : Gx) (W : WX) (env : Env) (σ : L2.St) (H : Hp) (Mu : Addr → Prop) : Exn → Env → Prop := fun x env' =>
  ∀ cls d σ' H' Mu', XOk g cls d x (hid H' Mu') → Post g env σ H Mu env' σ' H' Mu' → W cls d σ' H'
section
variable {g : Gx} {W : WX} {env env1 env2 : Env} {σ σ1 σ2 : L2.St} {H H1 H2 : Hp} {Mu M1 M2 : Addr → Prop} {v w : V}
theorem ExP.step (st : Sta g env σ H Mu) (P : Post g env σ H Mu env1 σ1 H1 M1) : ∀ x e, ExP g W env σ H Mu x e → ExP g W env1 σ1 H1 M1 x e :=
  fun _ _ h cls d σ' H' Mu' xo q => h cls d σ' H' Mu' xo (P.trans st q)
end

inductive TVPs (g : Gx) (σ : L2.St) (H : Hp) (Mu : Addr → Prop) : List V → List TV → Prop
  | nil : TVPs g σ H Mu [] []
  | cons {v : V} {vs : List V} {t : TV} {ts : List TV} : TVP g σ H Mu v t → TVPs g σ H Mu vs ts → TVPs g σ H Mu (v :: vs) (t :: ts)

section
variable (g : Gx) (sg : Sig) (call : Call) (W : WX)
def semE (c : C) : TE := fun σ H Q => ∃ env Mu, Sta g env σ H Mu ∧ wpR ((den sg call g.pins c).E env) (fun t env' => ∀ v H' Mu', Post g env σ H Mu env' σ H' Mu' → TVOk g env' σ H' Mu' v t → Org env σ H v t → Q v H') (ExP g W env σ H Mu)
def semP (c : C) : TE := fun σ H Q => ∃ env Mu, Sta g env σ H Mu ∧ wpR ((den sg call g.pins c).P env) (fun t env' => ∀ v H' Mu', Post g env σ H Mu env' σ H' Mu' → TVP g σ H' Mu' v t → Q v H') (ExP g W env σ H Mu)
def semT (c : C) : TT := fun σ H Q => ∃ env Mu, Sta g env σ H Mu ∧ wpR (((den sg call g.pins c).P >>= boolOf) env) (fun b env' => ∀ H' Mu', Post g env σ H Mu env' σ H' Mu' → Q b H') (ExP g W env σ H Mu)
def semA (c : C) : TA := fun σ H Q => ∃ env Mu, Sta g env σ H Mu ∧ wpR ((den sg call g.pins c).A env) (fun ts env' => ∀ vs H' Mu', Post g env σ H Mu env' σ H' Mu' → TVPs g σ H' Mu' vs ts → Q vs H') (ExP g W env σ H Mu)
def semO (c : C) : TO := fun σ H Q => ∃ env Mu, Sta g env σ H Mu ∧ wpR ((den sg call g.pins c).O env) (fun o env' => ∀ H' Mu', Post g env σ H Mu env' σ H' Mu' → Q o H') (ExP g W env σ H Mu)
end
/-- where a def's text runs -/
structure Ctx (X : Cx) (g : Gx) (W : WX) : Prop where
  K : X.K = g.K
  mg : X.mg = g.mg
  calm : X.calm = true
  un : X.A.units + 65 < cLine
  gd : X.A.guards = some []
  nd : X.N.Nodup
  tk : L2N.Takes X W
  glo : ∀ (x : Str) (d : D), g.gl x = some d → ∃ v u, X.mg x = some u ∧ RelV v u ∧ ∀ G, Rp g.K G v d

section
variable {X : Cx} {g : Gx} {sg : Sig} {call : Call} {W : WX} {a b c : C} {ea eb ec : Expr} {pos : Pos}
variable {env env1 env2 : Env} {σ σ1 σ2 : L2.St} {H H1 H2 : Hp} {Mu M1 M2 : Addr → Prop} {v w : V}

theorem semP_of {R : TV → Env → Prop} {E : Exn → Env → Prop} {Q : VK} (st : Sta g env σ H Mu) (hw : wpR ((den sg call g.pins a).P env) R E) (hx : ∀ x e, E x e → ExP g W env σ H Mu x e)
    (k : ∀ t env' v H' Mu', Post g env σ H Mu env' σ H' Mu' → TVP g σ H' Mu' v t → R t env' → Q v H') : semP g sg call W a σ H Q :=
  ⟨env, Mu, st, wpR_mono hw (fun t e r v H' Mu' P o => k t e v H' Mu' P o r) hx⟩
theorem TVP_of_fz {t : TV} {R : TV → Env → Prop} {E : Exn → Env → Prop} (st : Sta g env σ H Mu) (P : Post g env σ H Mu env1 σ H1 M1) (ok : TVOk g env1 σ H1 M1 v t) (og : Org env σ H v t) (hw : wpR (fz t env1) R E) :
    ∃ t' M2, R t' env1 ∧ Post g env σ H Mu env1 σ H1 M2 ∧ TVP g σ H1 M2 v t' := by
  cases t with
  | ref i => exact ⟨_, _, hw, P, ok⟩
  | val s =>
    obtain ⟨s', e, r⟩ := wpR_lift.mp (wpR_bind.mp hw)
    cases s with
    | imm d => cases e; exact ⟨_, _, r, P, ok⟩
    | exc x => cases e; exact ⟨_, _, r, P, ok⟩
    | own2 x => exact ok.elim
    | own d =>
      obtain ⟨h1, h2⟩ := ok
      obtain ⟨p, vs, ds, rfl, rfl, m, hp, rr⟩ := h1.there
      cases e
      have P2 := P.frozeTemp st (h2 p rfl) (og p rfl)
      refine ⟨_, _, r, P2, Rp.lst (.inl (.inl (hid_some.mpr ⟨fun z => z.2 rfl, hp⟩))) (rr.up ?_)⟩
      exact (Fr.froze (O := fun q => q = p) rfl).grows
/-- an expression, as an operand -/
theorem s_P (h : PE X ea (semE g sg call W a)) (e : (den sg call g.pins a).P = ((den sg call g.pins a).E >>= fz)) : PE X ea (semP g sg call W a) := by
  refine PE.imp (fun σ H Q hq => ?_) h
  obtain ⟨env, Mu, st, hw⟩ := hq
  rw [e] at hw
  refine ⟨env, Mu, st, wpR_mono (wpR_bind.mp hw) (fun t env1 h1 v H1 M1 P ok og => ?_) fun _ _ x => x⟩
  obtain ⟨t', M2, r, P2, o⟩ := TVP_of_fz st P ok og h1
  exact r v H1 M2 P2 o

theorem s_bin {op : Bop} (k : Ctx X g W) (ha : PE X ea (semP g sg call W a)) (hb : PE X eb (semP g sg call W b)) : PE X (.BinOp ea (opB op) eb pos) (semE g sg call W (.bin op a b)) := by
  have o := op_bin (X := X) op
  rw [k.K] at o
  refine PE.imp (fun σ H Q hq => ?_) (pe_op o ha hb)
  obtain ⟨env, Mu, st, hw⟩ := hq
  simp only [den, ofE, wpR_bind] at hw
  refine semP_of st hw (fun _ _ x => x) fun t1 env1 v1 H1 M1 P1 o1 hw => ?_
  refine semP_of P1.st hw (ExP.step st P1) fun t2 env2 v2 H2 M2 P2 o2 hw => ?_
  have P := P1.trans st P2
  obtain ⟨dx, nx, hw⟩ := look_ok P2.st (o1.up P2.fr.grows).ok hw
  obtain ⟨dy, ny, hw⟩ := look_ok P2.st o2.ok hw
  obtain ⟨s, e, hw⟩ := wpR_lift.mp hw
  exact bin_use st P nx ny e hw

theorem s_lit {d : D} {v0 : V} (c : C) (e : (den sg call g.pins c).E = M.pure (.val (.imm d))) (r : ∀ G, Rp g.K G v0 d) (h : PE X ea (tC v0)) : PE X ea (semE g sg call W c) := by
  refine PE.imp (fun σ H Q hq => ?_) h
  obtain ⟨env, Mu, st, hw⟩ := hq
  rw [e] at hw
  exact hw v0 H Mu (.refl st) (r _) trivial
theorem s_var {i : Nat} {x : Str} (k : Ctx X g W) (hN : X.N[i]? = some x) (hv : Vis X.env.scope x) (hd : (x == ("__debug__" : Str)) = false) (hcd : (x == ("__classdict__" : Str)) = false) : PE X (.Name x pos) (semE g sg call W (.var i)) := by
  refine PE.imp (fun σ H Q hq => ?_) (pe_var hN hv hd hcd)
  obtain ⟨env, Mu, st, hw⟩ := hq
  simp only [den, ofE] at hw
  cases e : env[i]? with
  | none => rw [e] at hw; exact hw.elim
  | some o =>
    cases o with
    | none => rw [e] at hw; exact hw.elim
    | some s =>
      rw [e] at hw
      obtain ⟨u, e1, _⟩ := st.sl i s e
      exact ⟨u, e1, hw u H Mu (.refl st) e1 trivial⟩
theorem Own.of_set_none {i : Nat} {p : Addr} (h : Own H (env.set i none) σ p) : Own H env σ p ∧ ∀ (s : Sl) (v : V), env[i]? = some (some s) → Sta g env σ H Mu → σ[i]? = some (some v) → ¬ OwnAt H s v p := by
  obtain ⟨j, a, w, ej, sj, oj⟩ := h
  rcases getset ej with ⟨_, _, e'⟩ | ⟨ne, ej'⟩
  · cases e'
  · exact ⟨⟨j, a, w, ej', sj, oj⟩, fun s v ei st z oi => ne (st.inj j i _ _ _ _ p ej' ei sj z oj oi)⟩
theorem Sta.drop (s : Sta g env σ H Mu) (i : Nat) : Sta g (env.set i none) σ H Mu :=
  ⟨fun j sl e => by
    rcases getset e with ⟨_, _, e'⟩ | ⟨_, e'⟩
    · cases e'
    · exact s.sl j sl e', fun j k a b w w' p ej ek sj sk oj ok => by
    rcases getset ej with ⟨_, _, e'⟩ | ⟨_, ej'⟩
    · cases e'
    · rcases getset ek with ⟨_, _, e'⟩ | ⟨_, ek'⟩
      · cases e'
      · exact s.inj j k a b w w' p ej' ek' sj sk oj ok, s.mh, s.pin, by rw [List.length_set]; exact s.len⟩
theorem Post.drop (s : Sta g env σ H Mu) (i : Nat) : Post g env σ H Mu (env.set i none) σ H Mu :=
  ⟨s.drop i, .refl, fun p o => .inl (Own.of_set_none (g := g) (H := H) (Mu := Mu) o).1⟩
theorem s_mov {i : Nat} {x : Str} (k : Ctx X g W) (hN : X.N[i]? = some x) (hv : Vis X.env.scope x) (hd : (x == ("__debug__" : Str)) = false) (hcd : (x == ("__classdict__" : Str)) = false) : PE X (.Name x pos) (semE g sg call W (.mov i)) := by
  refine PE.imp (fun σ H Q hq => ?_) (pe_var hN hv hd hcd)
  obtain ⟨env, Mu, st, hw⟩ := hq
  simp only [den, ofE] at hw
  split at hw
  · exact hw.elim
  · simp only [wpR_bind] at hw
    obtain ⟨s, e, hw⟩ := wpR_getS.mp hw
    obtain ⟨u, e1, hs⟩ := st.sl i s e
    cases s with
    | imm d => exact ⟨u, e1, hw u H Mu (Post.drop st i) hs trivial⟩
    | exc x => exact ⟨u, e1, hw u H Mu (Post.drop st i) hs trivial⟩
    | own2 d => exact hw.elim
    | own d =>
      refine ⟨u, e1, hw u H Mu (Post.drop st i) ⟨hs, fun p ep o => ?_⟩ fun p ep => .inl ⟨i, _, _, e, e1, ep⟩⟩
      exact (Own.of_set_none (g := g) (Mu := Mu) o).2 _ _ e st e1 ep
theorem s_glob {x : Str} {d : D} (k : Ctx X g W) (hg : Gl X x) (he : sg.globs.lookup x = some d) (hgl : g.gl x = some d) (hd : (x == ("__debug__" : Str)) = false) : PE X (.Name x pos) (semE g sg call W (.glob x)) := by
  obtain ⟨v0, u, hm, r, rp⟩ := k.glo x d hgl
  refine PE.imp (fun σ H Q hq => ?_) (pe_glob hg hm r hd)
  obtain ⟨env, Mu, st, hw⟩ := hq
  simp only [den, ofE, wpR_bind] at hw
  obtain ⟨d', e', hw⟩ := wpR_lift.mp hw
  rw [he] at e'
  cases e'
  exact hw v0 H Mu (.refl st) (rp _) trivial

theorem s_neg (k : Ctx X g W) (ha : PE X ea (semP g sg call W a)) : PE X (.UnaryOp .USub ea pos) (semE g sg call W (.neg a)) := by
  refine PE.imp (fun σ H Q hq => ?_) (pe_un un_neg ha)
  obtain ⟨env, Mu, st, hw⟩ := hq
  simp only [den, ofE, wpR_bind] at hw
  refine semP_of st hw (fun _ _ x => x) fun t1 env1 v1 H1 M1 P1 o1 hw => ?_
  obtain ⟨i, rfl, hw⟩ := intOf_ok P1.st o1.ok hw
  exact ⟨i, rfl, hw _ H1 M1 P1 (.int _) trivial⟩
theorem cmp_reads {op : Cop} {Q : VK} {σ : L2.St} {H : Hp} (hq : semE g sg call W (.cmp op a b) σ H Q) : tOp (cmpR g.K op) (semP g sg call W a) (semP g sg call W b) σ H Q := by
  obtain ⟨env, Mu, st, hw⟩ := hq
  simp only [den, ofE, wpR_bind] at hw
  refine semP_of st hw (fun _ _ x => x) fun t1 env1 v1 H1 M1 P1 o1 hw => ?_
  refine semP_of P1.st hw (ExP.step st P1) fun t2 env2 v2 H2 M2 P2 o2 hw => ?_
  have P := P1.trans st P2
  obtain ⟨dx, nx, hw⟩ := look_ok P2.st (o1.up P2.fr.grows).ok hw
  obtain ⟨dy, ny, hw⟩ := look_ok P2.st o2.ok hw
  obtain ⟨r, e, hw⟩ := wpR_lift.mp hw
  exact cmp_use nx ny e (hw _ H2 M2 P (.bl _) trivial)
/-- where an expression's value is a truth, its reading as a test -/
theorem test_of {c : C} {Q : Bool → Hp → Prop} {σ : L2.St} {H : Hp} (e : (den sg call g.pins c).P = ((den sg call g.pins c).E >>= fz)) (hq : semT g sg call W c σ H Q) : semE g sg call W c σ H (fun x H' => ∃ k, x = .bl k ∧ Q k H') := by
  obtain ⟨env, Mu, st, hw⟩ := hq
  rw [e] at hw
  have hw := wpR_bind.mp (wpR_bind.mp hw)
  refine ⟨env, Mu, st, wpR_mono hw (fun t env1 h1 v H1 M1 P ok og => ?_) fun _ _ x => x⟩
  obtain ⟨t', M2, r, P2, o⟩ := TVP_of_fz st P ok og h1
  obtain ⟨b, rfl, r⟩ := boolOf_ok P2.st o.ok r
  exact ⟨b, rfl, r H1 M2 P2⟩
theorem s_cmp {op : Cop} (k : Ctx X g W) (h1 : behindInMarks (opC op) eb = false) (ha : PE X ea (semP g sg call W a)) (hb : PE X eb (semP g sg call W b)) : PE X (.Compare ea [opC op] [eb] pos) (semE g sg call W (.cmp op a b)) := by
  have o := op_cmp (X := X) k.un op
  rw [k.K] at o
  exact PE.imp (fun σ H Q hq => cmp_reads hq) (pe_cmpR o ha hb h1)
theorem s_cmpT {op : Cop} (k : Ctx X g W) (h1 : behindInMarks (opC op) eb = false) (ha : PE X ea (semP g sg call W a)) (hb : PE X eb (semP g sg call W b)) : PT X (.Compare ea [opC op] [eb] pos) (semT g sg call W (.cmp op a b)) := by
  have o := op_cmp (X := X) k.un op
  rw [k.K] at o
  exact PT.imp (fun σ H Q hq => cmp_reads (test_of rfl hq)) (pt_cmpR o ha hb h1)
theorem chain_reads {o1 o2 : Cop} {Q : VK} {σ : L2.St} {H : Hp} (hq : semE g sg call W (.chain o1 o2 a b c) σ H Q) : tChain (cmpR g.K o1) (cmpR g.K o2) (semP g sg call W a) (semP g sg call W b) (semP g sg call W c) σ H Q := by
  obtain ⟨env, Mu, st, hw⟩ := hq
  simp only [den, ofE, wpR_bind] at hw
  refine semP_of st hw (fun _ _ x => x) fun t1 env1 v1 H1 M1 P1 o1 hw => ?_
  refine semP_of P1.st hw (ExP.step st P1) fun t2 env2 v2 H2 M2 P2 o2 hw => ?_
  have P := P1.trans st P2
  obtain ⟨dx, nx, hw⟩ := look_ok P2.st (o1.up P2.fr.grows).ok hw
  obtain ⟨dy, ny, hw⟩ := look_ok P2.st o2.ok hw
  obtain ⟨r, e, hw⟩ := wpR_lift.mp hw
  refine cmp_use nx ny e ⟨r, rfl, ?_⟩
  cases r with
  | false =>
    simp only [Bool.false_eq_true, if_false] at hw ⊢
    exact hw _ H2 M2 P (.bl _) trivial
  | true =>
    simp only [if_true, wpR_bind] at hw ⊢
    refine semP_of P2.st hw (ExP.step st P) fun t3 env3 v3 H3 M3 P3 o3 hw => ?_
    have P' := P.trans st P3
    obtain ⟨dy', ny', hw⟩ := look_ok P3.st (o2.up P3.fr.grows).ok hw
    obtain ⟨dz, nz, hw⟩ := look_ok P3.st o3.ok hw
    obtain ⟨r, e, hw⟩ := wpR_lift.mp hw
    exact cmp_use ny' nz e (hw _ H3 M3 P' (.bl _) trivial)
theorem s_chain {o1 o2 : Cop} (k : Ctx X g W) (h1 : lastMarks [opC o1, opC o2] [eb, ec] = false) (ha : PE X ea (semP g sg call W a)) (hb : PE X eb (semP g sg call W b)) (hc : PE X ec (semP g sg call W c)) :
    PE X (.Compare ea [opC o1, opC o2] [eb, ec] pos) (semE g sg call W (.chain o1 o2 a b c)) := by
  have p1 := op_cmp (X := X) k.un o1
  have p2 := op_cmp (X := X) k.un o2
  rw [k.K] at p1 p2
  exact PE.imp (fun σ H Q hq => chain_reads hq) (pe_chain p1 p2 ha hb hc h1)
theorem s_chainT {o1 o2 : Cop} (k : Ctx X g W) (h1 : lastMarks [opC o1, opC o2] [eb, ec] = false) (ha : PE X ea (semP g sg call W a)) (hb : PE X eb (semP g sg call W b)) (hc : PE X ec (semP g sg call W c)) :
    PT X (.Compare ea [opC o1, opC o2] [eb, ec] pos) (semT g sg call W (.chain o1 o2 a b c)) := by
  have p1 := op_cmp (X := X) k.un o1
  have p2 := op_cmp (X := X) k.un o2
  rw [k.K] at p1 p2
  exact PT.imp (fun σ H Q hq => chain_reads (test_of rfl hq)) (pt_chain p1 p2 ha hb hc h1)

variable {rest : List Expr} {y : Expr}
theorem s_and (ha : PE X ea (semP g sg call W a)) (hb : PE X (.BoolOp .And (y :: rest) pos) (semP g sg call W b)) : PE X (.BoolOp .And (ea :: y :: rest) pos) (semE g sg call W (.and a b)) := by
  refine PE.imp (fun σ H Q hq => ?_) (pe_and ha hb)
  obtain ⟨env, Mu, st, hw⟩ := hq
  simp only [den, ofE, wpR_bind] at hw
  refine semP_of st hw (fun _ _ x => x) fun t1 env1 v1 H1 M1 P1 o1 hw => ?_
  obtain ⟨r, rfl, hw⟩ := boolOf_ok P1.st o1.ok hw
  refine ⟨r, rfl, ?_⟩
  cases r with
  | false =>
    simp only [Bool.false_eq_true, if_false] at hw ⊢
    exact hw _ H1 M1 P1 (.bl _) trivial
  | true =>
    simp only [if_true, wpR_bind] at hw ⊢
    refine semP_of P1.st hw (ExP.step st P1) fun t2 env2 v2 H2 M2 P2 o2 hw => ?_
    obtain ⟨r, rfl, hw⟩ := boolOf_ok P2.st o2.ok hw
    exact hw _ H2 M2 (P1.trans st P2) (.bl _) trivial
theorem s_or (ha : PE X ea (semP g sg call W a)) (hb : PE X (.BoolOp .Or (y :: rest) pos) (semP g sg call W b)) : PE X (.BoolOp .Or (ea :: y :: rest) pos) (semE g sg call W (.or a b)) := by
  refine PE.imp (fun σ H Q hq => ?_) (pe_or ha hb)
  obtain ⟨env, Mu, st, hw⟩ := hq
  simp only [den, ofE, wpR_bind] at hw
  refine semP_of st hw (fun _ _ x => x) fun t1 env1 v1 H1 M1 P1 o1 hw => ?_
  obtain ⟨r, rfl, hw⟩ := boolOf_ok P1.st o1.ok hw
  refine ⟨r, rfl, ?_⟩
  cases r with
  | true =>
    simp only [if_true] at hw ⊢
    exact hw _ H1 M1 P1 (.bl _) trivial
  | false =>
    simp only [Bool.false_eq_true, if_false, wpR_bind] at hw ⊢
    refine semP_of P1.st hw (ExP.step st P1) fun t2 env2 v2 H2 M2 P2 o2 hw => ?_
    obtain ⟨r, rfl, hw⟩ := boolOf_ok P2.st o2.ok hw
    exact hw _ H2 M2 (P1.trans st P2) (.bl _) trivial
theorem semT_of {R : Bool → Env → Prop} {E : Exn → Env → Prop} {Q : Bool → Hp → Prop} (st : Sta g env σ H Mu) (hw : wpR (((den sg call g.pins a).P >>= boolOf) env) R E) (hx : ∀ x e, E x e → ExP g W env σ H Mu x e)
    (k : ∀ t env' H' Mu', Post g env σ H Mu env' σ H' Mu' → R t env' → Q t H') : semT g sg call W a σ H Q :=
  ⟨env, Mu, st, wpR_mono hw (fun t e r H' Mu' P => k t e H' Mu' P r) hx⟩
theorem s_andT (ha : PT X ea (semT g sg call W a)) (hb : PW X (.BoolOp .And (y :: rest) pos) (semT g sg call W b)) : PW X (.BoolOp .And (ea :: y :: rest) pos) (semT g sg call W (.and a b)) := by
  refine PW.imp (fun σ H Q hq => ?_) (pw_and ha hb)
  obtain ⟨env, Mu, st, hw⟩ := hq
  simp only [den, ofE, wpR_bind] at hw
  refine semT_of (E := ExP g W env σ H Mu) st (wpR_bind.mpr hw) (fun _ _ x => x) fun r env1 H1 M1 P1 hw => ?_
  cases r with
  | false =>
    simp only [Bool.false_eq_true, if_false] at hw ⊢
    exact hw H1 M1 P1
  | true =>
    simp only [if_true, wpR_bind] at hw ⊢
    refine semT_of P1.st (wpR_bind.mpr hw) (ExP.step st P1) fun r env2 H2 M2 P2 hw => ?_
    exact hw H2 M2 (P1.trans st P2)
theorem s_orT (ha : PT X ea (semT g sg call W a)) (hb : PW X (.BoolOp .Or (y :: rest) pos) (semT g sg call W b)) : PW X (.BoolOp .Or (ea :: y :: rest) pos) (semT g sg call W (.or a b)) := by
  refine PW.imp (fun σ H Q hq => ?_) (pw_or ha hb)
  obtain ⟨env, Mu, st, hw⟩ := hq
  simp only [den, ofE, wpR_bind] at hw
  refine semT_of (E := ExP g W env σ H Mu) st (wpR_bind.mpr hw) (fun _ _ x => x) fun r env1 H1 M1 P1 hw => ?_
  cases r with
  | true =>
    simp only [if_true] at hw ⊢
    exact hw H1 M1 P1
  | false =>
    simp only [Bool.false_eq_true, if_false, wpR_bind] at hw ⊢
    refine semT_of P1.st (wpR_bind.mpr hw) (ExP.step st P1) fun r env2 H2 M2 P2 hw => ?_
    exact hw H2 M2 (P1.trans st P2)
theorem s_not (ha : PE X ea (semP g sg call W a)) : PE X (.UnaryOp .Not ea pos) (semE g sg call W (.not a)) := by
  refine PE.imp (fun σ H Q hq => ?_) (pe_not ha)
  obtain ⟨env, Mu, st, hw⟩ := hq
  simp only [den, ofE, wpR_bind] at hw
  refine semP_of st hw (fun _ _ x => x) fun t1 env1 v1 H1 M1 P1 o1 hw => ?_
  obtain ⟨r, rfl, hw⟩ := boolOf_ok P1.st o1.ok hw
  exact ⟨r, rfl, hw _ H1 M1 P1 (.bl _) trivial⟩
theorem s_notT (ha : PT X ea (semT g sg call W a)) : PT X (.UnaryOp .Not ea pos) (semT g sg call W (.not a)) := by
  refine PT.imp (fun σ H Q hq => ?_) (pt_not ha)
  obtain ⟨env, Mu, st, hw⟩ := hq
  simp only [den, ofE, wpR_bind] at hw
  refine semT_of (E := ExP g W env σ H Mu) st (wpR_bind.mpr hw) (fun _ _ x => x) fun r env1 H1 M1 P1 hw => ?_
  exact hw H1 M1 P1
theorem semE_of {R : TV → Env → Prop} {E : Exn → Env → Prop} {Q : VK} (st : Sta g env σ H Mu) (hw : wpR ((den sg call g.pins a).E env) R E) (hx : ∀ x e, E x e → ExP g W env σ H Mu x e)
    (k : ∀ t env' v H' Mu', Post g env σ H Mu env' σ H' Mu' → TVOk g env' σ H' Mu' v t → Org env σ H v t → R t env' → Q v H') : semE g sg call W a σ H Q :=
  ⟨env, Mu, st, wpR_mono hw (fun t e r v H' Mu' P o og => k t e v H' Mu' P o og r) hx⟩
theorem Org.back {t : TV} (P : Post g env σ H Mu env1 σ H1 M1) (o : Org env1 σ H1 v t) : Org env σ H v t := by
  cases t with
  | ref i => exact trivial
  | val s =>
    cases s with
    | imm d => exact trivial
    | exc x => exact trivial
    | own2 x => exact trivial
    | own d => exact fun p e => (o p e).elim (P.sub p) fun z => .inr (Classical.byContradiction fun n => P.fr.e p n z)
theorem s_ite (hc : PT X ec (semT g sg call W c)) (ha : PE X ea (semE g sg call W a)) (hb : PE X eb (semE g sg call W b)) : PE X (.IfExp ec ea eb pos) (semE g sg call W (.ite c a b)) := by
  refine PE.imp (fun σ H Q hq => ?_) (pe_ifExp hc ha hb)
  obtain ⟨env, Mu, st, hw⟩ := hq
  simp only [den, ofE, wpR_bind] at hw
  refine semT_of (E := ExP g W env σ H Mu) st (wpR_bind.mpr hw) (fun _ _ x => x) fun r env1 H1 M1 P1 hw => ?_
  cases r with
  | false =>
    simp only [Bool.false_eq_true, if_false] at hw ⊢
    exact semE_of P1.st hw (ExP.step st P1) fun t env2 v H2 M2 P2 ok og hw => hw v H2 M2 (P1.trans st P2) ok (og.back P1)
  | true =>
    simp only [if_true] at hw ⊢
    exact semE_of P1.st hw (ExP.step st P1) fun t env2 v H2 M2 P2 ok og hw => hw v H2 M2 (P1.trans st P2) ok (og.back P1)
end
end Ev
end
section
namespace Ev
open PySem PySem.Spec PyProof.Rows L2

def noStar : Expr → Bool
  | .Starred _ _ => false
  | _ => true
theorem star1 {e : Expr} (h : noStar e = true) (es : List Expr) (env : PySem.Env) : starEach (e :: es) env = (false, eval e env) :: starEach es env := by
  cases e <;> first | rfl | cases h
theorem stars {es : List Expr} {pos : Pos} {env : PySem.Env} : es.all noStar = true → (backTo pos (starEach es env)).any (·.1) = false := by
  induction es with
  | nil => intro _; rfl
  | cons e es ih =>
    intro h
    rw [List.all_cons, Bool.and_eq_true] at h
    rw [star1 h.1]
    show (false || (backTo pos (starEach es env)).any (·.1)) = false
    rw [ih h.2]
    rfl

section
variable {X : Cx} {g : Gx} {sg : Sig} {call : Call} {W : WX} {a b c as lo hi : C} {ea eb ec : Expr} {es : List Expr} {pos : Pos}
variable {env env1 env2 : Env} {σ σ1 σ2 : L2.St} {H H1 H2 : Hp} {Mu M1 M2 : Addr → Prop} {v w : V}

theorem semA_of {R : List TV → Env → Prop} {E : Exn → Env → Prop} {Q : List V → Hp → Prop} (st : Sta g env σ H Mu) (hw : wpR ((den sg call g.pins a).A env) R E) (hx : ∀ x e, E x e → ExP g W env σ H Mu x e)
    (k : ∀ ts env' vs H' Mu', Post g env σ H Mu env' σ H' Mu' → TVPs g σ H' Mu' vs ts → R ts env' → Q vs H') : semA g sg call W a σ H Q :=
  ⟨env, Mu, st, wpR_mono hw (fun t e r v H' Mu' P o => k t e v H' Mu' P o r) hx⟩
theorem s_nil : PA X [] (semA g sg call W .nil) := by
  refine PA.imp (fun σ H Q hq => ?_) pa_nil
  obtain ⟨env, Mu, st, hw⟩ := hq
  exact hw [] H Mu (.refl st) .nil
theorem s_cons (hs : noStar ea = true) (ha : PE X ea (semP g sg call W a)) (hb : PA X es (semA g sg call W as)) : PA X (ea :: es) (semA g sg call W (.cons a as)) := by
  refine PA.imp (fun σ H Q hq => ?_) (pa_cons ha hb (star1 hs es X.env))
  obtain ⟨env, Mu, st, hw⟩ := hq
  simp only [den, wpR_bind] at hw
  refine semP_of st hw (fun _ _ x => x) fun t1 env1 v1 H1 M1 P1 o1 hw => ?_
  refine semA_of P1.st hw (ExP.step st P1) fun ts env2 vs H2 M2 P2 o2 hw => ?_
  exact hw _ H2 M2 (P1.trans st P2) (.cons (o1.up P2.fr.grows) o2)
theorem TVPs.up (e : Grows (hid H Mu) (hid H1 M1)) : ∀ {vs : List V} {ts : List TV}, TVPs g σ H Mu vs ts → TVPs g σ H1 M1 vs ts
  | _, _, .nil => .nil
  | _, _, .cons h r => .cons (h.up e) (TVPs.up e r)
theorem shareDs_ok : ∀ {vs : List V} {ts : List TV} {Mu : Addr → Prop} {env : Env} {R : List D → Env → Prop} {E : Exn → Env → Prop}, TVPs g σ H Mu vs ts → Sta g env σ H Mu → wpR (shareDs g.pins ts env) R E →
    ∃ ds env1 M1, R ds env1 ∧ Post g env σ H Mu env1 σ H M1 ∧ RpAll g.K (hid H M1) vs ds
  | _, _, _, _, _, _, .nil, st, hw => ⟨_, _, _, hw, .refl st, .nil⟩
  | _, _, _, _, _, _, .cons h r, st, hw => by
    simp only [shareDs, wpR_bind] at hw
    obtain ⟨d, env1, M1, hw, P, rd⟩ := shareD_ok st h hw
    obtain ⟨ds, env2, M2, hw, P2, rs⟩ := shareDs_ok (r.up P.fr.grows) P.st hw
    exact ⟨_, _, _, hw, P.trans st P2, .cons (rd.up P2.fr.grows) rs⟩
theorem s_tup {k : Nat} (ha : PA X es (semA g sg call W as)) : PE X (.Tuple es k pos) (semE g sg call W (.tup as)) := by
  refine PE.imp (fun σ H Q hq => ?_) (pe_tup ha)
  obtain ⟨env, Mu, st, hw⟩ := hq
  simp only [den, ofE, wpR_bind] at hw
  refine semA_of st hw (fun _ _ x => x) fun ts env1 vs H1 M1 P1 o1 hw => ?_
  obtain ⟨ds, env2, M2, hw, P2, r⟩ := shareDs_ok o1 P1.st hw
  split at hw
  · rename_i c
    refine ⟨by rw [r.length]; exact lim_line c, fun p n => ?_⟩
    exact Ans.tup (ds := ds) hw st (P1.trans st P2) r p n
  · exact hw.elim
theorem s_lst (ha : PA X es (semA g sg call W as)) : PE X (.List es pos) (semE g sg call W (.lst as)) := by
  refine PE.imp (fun σ H Q hq => ?_) (pe_lst ha)
  obtain ⟨env, Mu, st, hw⟩ := hq
  simp only [den, ofE, wpR_bind] at hw
  refine semA_of st hw (fun _ _ x => x) fun ts env1 vs H1 M1 P1 o1 hw => ?_
  obtain ⟨ds, env2, M2, hw, P2, r⟩ := shareDs_ok o1 P1.st hw
  split at hw
  · rename_i c
    refine ⟨by rw [r.length]; exact lim_line c, fun p n => ?_⟩
    exact Ans.list (ds := ds) hw st (P1.trans st P2) r p n
  · exact hw.elim

def plainIx : Expr → Bool
  | .Slice _ _ _ _ => false
  | _ => true
theorem plain_ix {b : Expr} (h : plainIx b = true) : PlainIx b := by
  intro o i
  cases b <;> first | rfl | cases h
theorem atI_map {K : PySem.W.Frag} {G : Hp} {ds : List D} {vs : List V} {i : Int} {d : D} (r : RpAll K G vs ds) (e : atD ds i = some d) : ∃ v, atI vs i = some v ∧ Rp K G v d := by
  unfold atD atI at e
  obtain ⟨j, e1, e2⟩ := Option.bind_eq_some_iff.mp e
  obtain ⟨v, e3, rv⟩ := r.get e2
  refine ⟨v, ?_, rv⟩
  unfold atI
  rw [r.length, e1]
  exact e3
theorem s_idx (k : Ctx X g W) (hp : plainIx eb = true) (ha : PE X ea (semP g sg call W a)) (hb : PE X eb (semP g sg call W b)) : PE X (.Subscript ea eb pos) (semE g sg call W (.idx a b)) := by
  have o := ix_seq (X := X)
  rw [k.K] at o
  refine PE.imp (fun σ H Q hq => ?_) (pe_ix o ha hb (plain_ix hp))
  obtain ⟨env, Mu, st, hw⟩ := hq
  simp only [den, ofE, wpR_bind] at hw
  refine semP_of st hw (fun _ _ x => x) fun t1 env1 v1 H1 M1 P1 o1 hw => ?_
  refine semP_of P1.st hw (ExP.step st P1) fun t2 env2 v2 H2 M2 P2 o2 hw => ?_
  have P := P1.trans st P2
  obtain ⟨dx, nx, hw⟩ := look_ok P2.st (o1.up P2.fr.grows).ok hw
  obtain ⟨i, rfl, hw⟩ := intOf_ok P2.st o2.ok hw
  cases dx with
  | list xs =>
    simp only [wpR_bind] at hw
    obtain ⟨d, e, hw⟩ := wpR_lift.mp hw
    obtain ⟨p, vs, rfl, hp, r⟩ := nx.list
    obtain ⟨u, e1, ru⟩ := atI_map r e
    exact .inl ⟨p, vs, i, u, rfl, rfl, hp.l, e1, hw u H2 M2 P ru trivial⟩
  | tuple xs =>
    simp only [wpR_bind] at hw
    obtain ⟨d, e, hw⟩ := wpR_lift.mp hw
    obtain ⟨p, vs, rfl, hp, hp2, r⟩ := nx.tuple
    obtain ⟨u, e1, ru⟩ := atI_map r e
    exact .inr (.inl ⟨p, vs, i, u, rfl, rfl, hp, e1, hw u H2 M2 P ru trivial⟩)
  | str z =>
    by_cases hz : z.length ≤ lim
    · simp only [hz, if_true, wpR_bind] at hw
      obtain ⟨q, e, hw⟩ := wpR_lift.mp hw
      have vz := nx.rp.s
      subst vz
      exact .inr (.inr ⟨z, i, q, rfl, rfl, lim_line hz, e, hw _ H2 M2 P (.str _) trivial⟩)
    · simp only [hz, if_false] at hw
      exact hw.elim
  | _ => exact hw.elim
theorem s_O (e : (den sg call g.pins a).O = ((den sg call g.pins a).E >>= fun t => intOf t >>= fun i => M.pure (some i))) (h : PE X ea (semE g sg call W a)) : PO X (some ea) (semO g sg call W a) := by
  refine ⟨fun pins s σ H Q I hq => (po_some h).run pins s σ H Q I ?_⟩
  obtain ⟨env, Mu, st, hw⟩ := hq
  rw [e] at hw
  refine semE_of st (wpR_bind.mp hw) (fun _ _ x => x) fun t env1 v H1 M1 P ok og hw => ?_
  obtain ⟨i, rfl, hw⟩ := intOf_ok P.st ok (wpR_bind.mp hw)
  exact ⟨i, rfl, hw H1 M1 P⟩
theorem s_noO : PO X none (semO g sg call W .no) := by
  refine ⟨fun pins s σ H Q I hq => po_none.run pins s σ H Q I ?_⟩
  obtain ⟨env, Mu, st, hw⟩ := hq
  exact hw H Mu (.refl st)
theorem semO_of {R : Option Int → Env → Prop} {E : Exn → Env → Prop} {Q : Option Int → Hp → Prop} (st : Sta g env σ H Mu) (hw : wpR ((den sg call g.pins a).O env) R E) (hx : ∀ x e, E x e → ExP g W env σ H Mu x e)
    (k : ∀ t env' H' Mu', Post g env σ H Mu env' σ H' Mu' → R t env' → Q t H') : semO g sg call W a σ H Q :=
  ⟨env, Mu, st, wpR_mono hw (fun t e r H' Mu' P => k t e H' Mu' P r) hx⟩
theorem cut_whole {xs : List D} {lo hi : Option Int} (h : HT.sIx xs.length 0 lo = 0 ∧ HT.sIx xs.length xs.length hi = xs.length) : cutD xs lo hi = xs := by
  unfold cutD
  rw [h.1, h.2, List.drop_zero, Nat.sub_zero, List.take_length]
theorem s_slc {elo ehi : Option Expr} {p2 : Pos} (k : Ctx X g W) (ha : PE X ea (semP g sg call W a)) (hl : PO X elo (semO g sg call W lo)) (hh : PO X ehi (semO g sg call W hi)) : PE X (.Subscript ea (.Slice elo ehi none p2) pos) (semE g sg call W (.slc a lo hi)) := by
  have o := (sl_list (X := X)).or (sl_tupA (X := X))
  rw [k.K] at o
  refine PE.imp (fun σ H Q hq => ?_) (pe_slice o ha hl hh)
  obtain ⟨env, Mu, st, hw⟩ := hq
  simp only [den, ofE, wpR_bind] at hw
  refine semP_of st hw (fun _ _ x => x) fun t1 env1 v1 H1 M1 P1 o1 hw => ?_
  refine semO_of P1.st hw (ExP.step st P1) fun l env2 H2 M2 P2 hw => ?_
  have P12 := P1.trans st P2
  refine semO_of P2.st hw (ExP.step st P12) fun u env3 H3 M3 P3 hw => ?_
  have P := P12.trans st P3
  obtain ⟨dx, nx, hw⟩ := look_ok P3.st ((o1.up P2.fr.grows).up P3.fr.grows).ok hw
  cases dx with
  | list xs =>
    obtain ⟨p, vs, rfl, hp, r⟩ := nx.list
    exact .inl ⟨p, vs, rfl, hp.l, fun q n => Ans.list (ds := cutD xs l u) hw st P (r.cut l u) q n⟩
  | tuple xs =>
    obtain ⟨p, vs, rfl, hp, hp2, r⟩ := nx.tuple
    refine .inr ⟨p, vs, rfl, hp, fun z => ?_, fun _ q n => Ans.tup (ds := cutD xs l u) hw st P (r.cut l u) q n⟩
    refine hw _ H3 M3 P ?_ trivial
    show Rp g.K _ _ (.tuple (cutD xs l u))
    rw [cut_whole (by rw [← r.length]; exact z)]
    exact .tup hp2 r
  | _ => exact hw.elim

def Bi.name : Bi → Str
  | .len => "len" | .repr => "repr" | .max => "max" | .min => "min" | .abs => "abs" | .int => "int" | .str => "str" | .sum => "sum" | .any => "any" | .all => "all" | .tuple => "tuple" | .list => "list"
def Bi.ty : Bi → Option String
  | .int => some "int" | .str => some "str" | .tuple => some "tuple" | .list => some "list" | _ => none
def Bi.id : Bi → String
  | .len => "len" | .repr => "repr" | .max => "max" | .min => "min" | .abs => "abs" | .sum => "sum" | .any => "any" | .all => "all" | _ => ""
def Bi.val (f : Bi) : Value := match f.ty with
  | some t => .type t
  | none => .builtin f.id
theorem Bi.boot (f : Bi) : bootBuiltins f.name = some f.val := by cases f <;> decide +kernel
theorem Bi.nn (f : Bi) : f.name ≠ "__name__" := by cases f <;> decide
theorem Bi.nd (f : Bi) : (f.name == ("__debug__" : Str)) = false := by cases f <;> decide
def rRepr (K : PySem.W.Frag) : List V → Hp → VK → Prop := fun xs H Q => ∃ x d, xs = [x] ∧ Rp K H x d ∧ d.showable = true ∧ d.hasDict = false ∧ d.shown.length ≤ sizeLine ∧ d.depth ≤ 60 ∧ Q (.str d.shown) H
theorem call_reprD (hg : X.A.guards = some []) (hu : X.A.units + 64 < cLine) : CallR X (.builtin "repr") (rRepr X.K) := by
  intro pins s σ H xs us Q I r h
  obtain ⟨x, d, rfl, rp, h1, h2, h3, h4, q⟩ := h
  obtain ⟨u, rfl, ru⟩ := vals1 r
  have ref : ∀ {a : Addr}, x = .ref a → wpAny (model X.prog X.w) X.A (PySem.call (.builtin "repr") [u]) (EP X pins σ Q) X.xe s := fun {a} e => by
    obtain ⟨as, rd⟩ := Dp.reads I d x u rp.dp ru
    subst e
    obtain rfl : u = Value.ref a := ru
    exact repr_of_reads' rd h1 (PyData.noDict_hsm h2) hg (by omega) (fun _ _ e => e) (fun h' u tk hk => ⟨.str _, H, I.kept hk, ⟨_, rfl⟩, q⟩) h3
  cases rp with
  | non => cases ru; exact PySem.P.repr_of_none ⟨.str _, H, I.tok _, ⟨_, rfl⟩, q⟩
  | bl b =>
    cases ru
    refine PySem.P.repr_of_bool ⟨.str _, H, I.tok _, ⟨_, rfl⟩, ?_⟩
    cases b <;> exact q
  | int i => obtain ⟨t, rfl⟩ := ru; exact PySem.P.repr_of_int (of_decide_eq_true h1) ⟨.str _, H, I.tok _, ⟨_, rfl⟩, q⟩
  | str z => obtain ⟨t, rfl⟩ := ru; exact PySem.P.repr_of_str ⟨.str _, H, I.tok _, ⟨_, rfl⟩, q⟩ h3
  | lst _ _ => exact ref rfl
  | tup _ _ => exact ref rfl
end
end Ev
end
section
namespace Ev
open PySem PySem.Spec PyProof.Rows L2
theorem args_maxd (a d : Value) : argsOk "max" ⟨[a], [(Str.ofString "default", d)]⟩ := by unfold argsOk; kernel_rfl
section
variable {prog : Program} {w : World} {A : Around} {R : Result → Shared → Prop} {E : Value → Shared → Prop} {I S : Addr} {fp wr : List Addr} {n : Nat} {P : Nat → Value → Prop} {St : Nat → Heap → Prop} {s : Shared}
/-- what the loop's list of the best holds ahead of the turn j -/
def Best (P : Nat → Value → Prop) (bt : Nat → Nat → Bool) : Nat → Array Value → Prop
  | 0, vs => vs = #[]
  | j + 1, vs => ∃ v, vs = #[v, v] ∧ P (argBest bt j) v
theorem maxd_loop (W : Walks prog w A.in1 I fp wr n P St) (bt : Nat → Nat → Bool) (hcmp : CmpOf prog w A.in1 .Gt P bt) (hS : S ∉ fp) (d : Value) :
    ∀ (k j : Nat) (s : Shared) (vs : Array Value) (c : Nat), n - j = k → j ≤ n → St j s.heap → Best P bt j vs → s.heap.get? S = some { cls := .type "list", dict := none, data := .seq vs c, slots := #[] } →
      (∀ v h' tk, (n = 0 ∧ v = d ∨ 0 < n ∧ P (argBest bt (n - 1)) v) → (∀ b o, b ∉ wr → b ≠ S → s.heap.get? b = some o → h'.get? b = some o) → R (.ok (.ret v)) { s with heap := h', toks := tk }) →
      codeAny (model prog w) A (.builtin "max.loop" ⟨[.ref I, .none, .ref S], [(Str.ofString "default", d)]⟩) R s := by
  have notW : S ∉ wr := fun h => hS (W.sub _ h)
  have hname : (toString "max" ++ toString ".loop" : String) = "max.loop" := by decide
  intro k
  induction k with
  | zero =>
    intro j s vs c hk hj hst hb hs hR
    have e : j = n := by omega
    subst e
    refine codeAny_builtin F.entry_max_loop ?_
    rw [Around.under_plainId F.plain_max_loop _]
    show wpAny _ A.in1 (seqItems? (.ref S) >>= _) _ _ s
    refine wpAny_bind (wpAny_seqItems hs rfl ?_)
    show wpAny _ A.in1 (tryCatch (pyNext (.ref I)) _ >>= _) _ _ s
    refine wpAny_bind (wpAny_tryCatch (W.done s _ _ hst fun h' tk keep => ?_))
    cases j with
    | zero =>
      cases hb
      show wpAny _ A.in1 (rule _ >>= _) _ _ _
      exact wpAny_bind (wpAny_rule (wpAny_pure (hR d h' tk (.inl ⟨rfl, rfl⟩) fun b o hw _ e => keep b o hw e)))
    | succ j =>
      obtain ⟨v, rfl, pv⟩ := hb
      have hs' := keep S _ notW hs
      show wpAny _ A.in1 (updateSeq S (fun _ => #[]) >>= _) _ _ _
      refine wpAny_bind ?_
      refine wpAny_updateSeq hs' rfl (wpAny_bind (wpAny_letGo (wpAny_pure ?_)))
      exact hR v _ tk (.inr ⟨Nat.succ_pos _, pv⟩) fun b o hw hb e => (Heap.get?_update_other _ _ (Ne.symm hb)).trans (keep b o hw e)
  | succ k ih =>
    intro j s vs c hk hj hst hb hs hR
    refine codeAny_builtin F.entry_max_loop ?_
    rw [Around.under_plainId F.plain_max_loop _]
    show wpAny _ A.in1 (seqItems? (.ref S) >>= _) _ _ s
    refine wpAny_bind (wpAny_seqItems hs rfl ?_)
    show wpAny _ A.in1 (tryCatch (pyNext (.ref I)) _ >>= _) _ _ s
    refine wpAny_bind (wpAny_tryCatch (W.item j s _ _ (by omega) hst fun v h' tk pv hst' keep => ?_))
    have hs' := keep S _ notW hs
    -- one more turn, the best list holding v twice
    have next : ∀ (h2 : Heap) (tk2 : Tok) (vs2 : Array Value) (c2 : Nat), Best P bt (j + 1) vs2 → h2.get? S = some { cls := .type "list", dict := none, data := .seq vs2 c2, slots := #[] } → (∀ b o, b ≠ S → h'.get? b = some o → h2.get? b = some o) →
        codeAny (model prog w) A (.builtin "max.loop" ⟨[.ref I, .none, .ref S], [(Str.ofString "default", d)]⟩) R { s with heap := h2, toks := tk2 } := fun h2 tk2 vs2 c2 b2 s2 k2 => by
      refine ih (j + 1) { s with heap := h2, toks := tk2 } vs2 c2 (by omega) (by omega) (W.frame _ _ _ hst' fun b hbf o e => k2 b o (fun z => hS (by rw [← z]; exact hbf)) e) b2 s2 fun v3 h3 tk3 pv3 k3 => ?_
      exact hR v3 h3 tk3 pv3 fun b o hw hb e => k3 b o hw hb (k2 b o hb (keep b o hw e))
    cases j with
    | zero =>
      cases hb
      show wpAny _ A.in1 (updateSeq S (fun _ => #[v, v]) >>= _) _ _ _
      refine wpAny_bind ?_
      refine wpAny_updateSeq hs' rfl ?_
      rw [hname]
      exact wpAny_pure ⟨plainId_quiet F.plain_max_loop _, next _ _ _ _ ⟨v, rfl, pv⟩ (Heap.get?_update_self _ hs' rfl) fun b o hb e => (Heap.get?_update_other _ _ (Ne.symm hb)).trans e⟩
    | succ j =>
      obtain ⟨vb, rfl, pb⟩ := hb
      show wpAny _ A.in1 (tryCatch (holding [v, v] (richCompare .Gt v vb >>= _)) _ >>= _) _ _ _
      refine wpAny_bind (wpAny_tryCatch (wpAny_holding (wpAny_bind (hcmp (j + 1) (argBest bt j) v vb _ _ _ pv pb ?_))))
      refine wpAny_bind (wpAny_holding (wpAny_truthy_bool ?_))
      refine wpAny_bind (wpAny_letGo (wpAny_pure ?_))
      cases hbt : bt (j + 1) (argBest bt j) with
      | true =>
        simp only [if_true]
        refine wpAny_bind ?_
        refine wpAny_updateSeq hs' rfl (wpAny_bind (wpAny_letGo ?_))
        rw [hname]
        exact wpAny_pure ⟨plainId_quiet F.plain_max_loop _, next _ _ _ _ ⟨v, rfl, by simp only [argBest, hbt, if_true]; exact pv⟩ (Heap.get?_update_self _ hs' rfl) fun b o hb e => (Heap.get?_update_other _ _ (Ne.symm hb)).trans e⟩
      | false =>
        simp only [Bool.false_eq_true, if_false]
        refine wpAny_bind (wpAny_letGo ?_)
        rw [hname]
        exact wpAny_pure ⟨plainId_quiet F.plain_max_loop _, next _ _ _ _ ⟨vb, rfl, by simp only [argBest, hbt, Bool.false_eq_true, if_false]; exact pb⟩ hs' fun b o _ e => e⟩
/-- the call -/
theorem maxd_call {x d : Value} {Q : Value → Shared → Prop}
    (h : wpAny (model prog w) A.in1 (pyIter x) (fun it s₂ => ∃ I fp wr n P St bt, it = .ref I ∧ Walks prog w A.in1 I fp wr n P St ∧ St 0 s₂.heap ∧ (∀ b ∈ fp, b < s₂.heap.objs.size) ∧ CmpOf prog w A.in1 .Gt P bt ∧
      ∀ v h' tk, (n = 0 ∧ v = d ∨ 0 < n ∧ P (argBest bt (n - 1)) v) → (∀ b o, b ∉ wr → s₂.heap.get? b = some o → h'.get? b = some o) → Q v { s₂ with heap := h', toks := tk }) E s) :
    wpAny (model prog w) A (call (.builtin "max") [x] [(Str.ofString "default", d)]) Q E s := by
  have hname : (toString "max" ++ toString ".loop" : String) = "max.loop" := by decide
  have hc : wpAny (model prog w) A.in1 (Builtin.«max» ⟨[x], [(Str.ofString "default", d)]⟩) (fun fin s' => match fin with
      | .done f => (match (Except.ok f : Result) with | .ok (.ret v) => Q v s' | .ok _ => False | .error e => E e s')
      | .again c' => c'.quiet = true ∧ codeAny (model prog w) A c' (fun r s' => match r with | .ok (.ret v) => Q v s' | .ok _ => False | .error e => E e s') s') E s := by
    show wpAny _ A.in1 (Builtin.Builtins.bindParams "max" ["key", "default"] 0 ⟨[], [(Str.ofString "default", d)]⟩ >>= _) _ _ s
    refine wpAny_bind (wpAny_of_eq (show Builtin.Builtins.bindParams "max" ["key", "default"] 0 ⟨[], [(Str.ofString "default", d)]⟩ = pure [none, some d] from rfl) ?_)
    refine wpAny_bind (wpAny_pure ?_)
    refine wpAny_bind (wpAny_mono h (fun it s₂ h₂ => ?_) fun _ _ e => e)
    obtain ⟨I, fp, wr, n, P, St, bt, rfl, W, hst, hfp, hcmp, hQ⟩ := h₂
    refine wpAny_bind (wpAny_newObj_type ?_)
    rw [hname]
    refine wpAny_pure ⟨plainId_quiet F.plain_max_loop _, maxd_loop W bt hcmp (fun hm => Nat.lt_irrefl _ (hfp _ hm)) d _ 0 _ _ _ rfl (Nat.zero_le _) (W.frame _ _ _ hst fun b _ o e => Heap.get?_push_of_some _ e) rfl (Heap.get?_push_size _ rfl) fun v h' tk hP hk => ?_⟩
    exact hQ v h' tk hP fun b o hbw e => hk b o hbw (Nat.ne_of_lt (Heap.lt_size e)) (Heap.get?_push_of_some _ e)
  refine wpAny_call (codeAny_call_builtin F.plain_max F.entry_max ?_)
  simp only [checkBuiltinCall, F.kind_max]
  cases hsig : Manifest.signature? "max" with
  | none => exact wpAny_pure hc
  | some sig =>
    have ha := args_maxd x d
    simp only [argsOk, hsig] at ha
    simp only [ha]
    exact wpAny_pure hc
end
/-- max(xs, default=d) of a list of ints -/
def rMaxDf (K : PySem.W.Frag) : List V → List V → Hp → VK → Prop := fun vs zs H Q => ∃ (a : Addr) (ns : List Int) (d : V), vs = [V.ref a] ∧ zs = [d] ∧ SqL K H a (ns.map V.int) ∧ (ns = [] → Q d H) ∧ ∀ m, m ∈ ns → (∀ y, y ∈ ns → y ≤ m) → Q (.int m) H
theorem cr_maxDf {X : Cx} (hc : X.calm = true) : CallRK X (.builtin "max") [Str.ofString "default"] (rMaxDf X.K) := by
  intro pins s σ H vs zs us ws Q I r rz h
  obtain ⟨a, ns, d, rfl, rfl, hs, q0, q⟩ := h
  obtain rfl := Vals.ref1 r
  obtain ⟨dv, rfl, rd⟩ := rz.one
  obtain ⟨its, rv, hl, _⟩ := I.list hs
  have hi := rv.ints
  obtain ⟨xs, e⟩ := hi.allInts.items
  have hn : numsOf (intItems xs).toList = ns := by rw [← e]; exact hi.numsOf
  rw [nums_intItems] at hn
  subst hn
  have hl := hl.isList
  rw [e] at hl
  refine maxd_call (PySem.iter_intList hl fun s₂ es st hfp hlI => ?_)
  subst es
  refine ⟨_, _, _, _, _, _, _, rfl, Walks.list (A := X.A.in1) (I.ok.hd hc) _ a hlI (intItems xs), st, hfp, CmpOf.ints_gt (numAt xs) (fun _ _ => intItems_at), fun v h' tk hP hk => ?_⟩
  have kept := PySem.old_kept hk
  rcases hP with ⟨z, rfl⟩ | ⟨hne, hP⟩
  · exact ⟨d, H, I.kept kept, rd, q0 (by
      have : xs.size = 0 := by simpa [intItems] using z
      have : xs = #[] := Array.eq_empty_of_size_eq_zero this
      rw [this]
      rfl)⟩
  · have hsz : 0 < xs.size := by simpa [intItems] using hne
    have hP : (intItems xs)[argBest (fun i j => decide (numAt xs i > numAt xs j)) (xs.size - 1)]? = some v := by simpa [intItems] using hP
    obtain ⟨t, rfl⟩ := intItems_at hP
    obtain ⟨h1, h2⟩ := argBest_gt (numAt xs) (xs.size - 1)
    refine ⟨.int _, H, I.kept kept, ⟨_, rfl⟩, q _ ?_ fun y hy => ?_⟩
    · rw [numAt_eq]
      exact PySem.getD_mem (by rw [List.length_map, Array.length_toList]; omega)
    · obtain ⟨j, hj, rfl⟩ := mem_getD hy
      rw [List.length_map, Array.length_toList] at hj
      rw [← numAt_eq]
      exact h2 j (by omega)
end Ev
end
section
namespace Ev
open PySem PySem.Spec PyProof.Rows L2

def biR (K : PySem.W.Frag) : Bi → List V → Hp → VK → Prop
  | .len => fun xs H Q => ∃ x n, xs = [x] ∧ LenV K x H n ∧ Q (.int n) H
  | .repr => rRepr K
  | .max => fun xs H Q => ∃ i j, xs = [V.int i, V.int j] ∧ Q (V.int (if j > i then j else i)) H
  | .min => fun xs H Q => ∃ i j, xs = [V.int i, V.int j] ∧ Q (V.int (if j < i then j else i)) H
  | .abs => fun xs H Q => ∃ i, xs = [V.int i] ∧ Q (V.int (if i < 0 then -i else i)) H
  | .int => fun xs H Q => (∃ i, xs = [V.int i] ∧ Q (V.int i) H) ∨ ∃ k, xs = [V.bl k] ∧ Q (V.int (if k = true then 1 else 0)) H
  | .str => fun xs H Q => ∃ i, xs = [V.int i] ∧ i.natAbs.log2 < 1920 ∧ Q (V.str (Str.ofString (toString i))) H
  | .sum => rSum K
  | .any => rAny K
  | .all => rAll K
  | .tuple => fun xs H Q => ∃ p ys, xs = [V.ref p] ∧ ((SqL K H p ys ∧ ∀ (l : Addr), H l = none → Q (V.ref l) (upd H l (HO.tup ys))) ∨ SqT K H p ys ∧ Q (V.ref p) H)
  | .list => fun xs H Q => ∃ p ys, xs = [V.ref p] ∧ (SqL K H p ys ∨ SqT K H p ys) ∧ ∀ (l : Addr), H l = none → Q (V.ref l) (upd H l (HO.lst ys))
theorem call_bi {X : Cx} {g : Gx} {W : WX} (k : Ctx X g W) (f : Bi) : CallR X f.val (biR X.K f) := by
  cases f
  · exact call_len
  · exact call_reprD k.gd (Nat.lt_of_succ_lt k.un)
  · exact call_max2 k.calm
  · exact call_min2 k.calm
  · exact call_abs
  · exact call_int1
  · exact call_str_int
  · exact cr_sum k.calm
  · exact cr_any k.calm
  · exact cr_all k.calm
  · exact call_tuple_of
  · exact call_list_of

section
variable {X : Cx} {g : Gx} {sg : Sig} {call : Call} {W : WX} {a b c as lo hi : C} {ea eb ec : Expr} {es : List Expr} {pos : Pos}
variable {env env1 env2 : Env} {σ σ1 σ2 : L2.St} {H H1 H2 : Hp} {Mu M1 M2 : Addr → Prop} {v w : V}
inductive Nows (g : Gx) (H : Hp) (Mu : Addr → Prop) : List V → List D → Prop
  | nil : Nows g H Mu [] []
  | cons {v : V} {vs : List V} {d : D} {ds : List D} : Now g H Mu v d → Nows g H Mu vs ds → Nows g H Mu (v :: vs) (d :: ds)
theorem looks_ok : ∀ {vs : List V} {ts : List TV} {R : List D → Env → Prop} {E : Exn → Env → Prop}, TVPs g σ H Mu vs ts → Sta g env σ H Mu → wpR (looks ts env) R E → ∃ ds, Nows g H Mu vs ds ∧ R ds env
  | _, _, _, _, .nil, st, hw => ⟨[], .nil, hw⟩
  | _, _, _, _, .cons h r, st, hw => by
    simp only [looks, wpR_bind] at hw
    obtain ⟨d, n, hw⟩ := look_ok st h.ok hw
    obtain ⟨ds, ns, hw⟩ := looks_ok r st hw
    exact ⟨_, .cons n ns, hw⟩
theorem Nows.one {vs : List V} {d : D} (h : Nows g H Mu vs [d]) : ∃ v, vs = [v] ∧ Now g H Mu v d := by
  cases h with
  | cons h r => cases r; exact ⟨_, rfl, h⟩
theorem Nows.two {vs : List V} {d e : D} (h : Nows g H Mu vs [d, e]) : ∃ v w, vs = [v, w] ∧ Now g H Mu v d ∧ Now g H Mu w e := by
  cases h with
  | cons h r =>
    obtain ⟨w, rfl, k⟩ := r.one
    exact ⟨_, _, rfl, h, k⟩
theorem bi_use {f : Bi} {vs : List V} {ds : List D} {s : Sl} {Q : VK} (st : Sta g env σ H Mu) (P : Post g env σ H Mu env2 σ H2 M2) (ns : Nows g H2 M2 vs ds) (e : biD f ds = some s) (h : Ans g env σ H Mu env2 s Q) : biR g.K f vs H2 Q := by
  unfold biD at e
  split at e
  · cases e
    obtain ⟨x, rfl, n⟩ := ns.one
    obtain ⟨p, us, rfl, hp, r⟩ := n.list
    refine ⟨_, us.length, rfl, .inl ⟨us, hp.l, rfl⟩, ?_⟩
    rw [r.length]
    exact h.im P (.int _)
  · cases e
    obtain ⟨x, rfl, n⟩ := ns.one
    obtain ⟨p, us, rfl, hp, _, r⟩ := n.tuple
    refine ⟨_, us.length, rfl, .inr ⟨us, hp, rfl⟩, ?_⟩
    rw [r.length]
    exact h.im P (.int _)
  · split at e
    · rename_i c
      cases e
      obtain ⟨x, rfl, n⟩ := ns.one
      have := n.rp.s
      subst this
      exact ⟨_, _, rfl, ⟨lim_line c, rfl⟩, h.im P (.int _)⟩
    · cases e
  · split at e
    · rename_i c
      cases e
      obtain ⟨x, rfl, n⟩ := ns.one
      exact ⟨_, _, rfl, n.rp, c.1, c.2.1, c.2.2.1, c.2.2.2, h.im P (.str _)⟩
    · cases e
  · cases e
    obtain ⟨x, y, rfl, n, m⟩ := ns.two
    have z1 := n.rp.i
    have z2 := m.rp.i
    subst z1 z2
    exact ⟨_, _, rfl, h.im P (.int _)⟩
  · cases e
    obtain ⟨x, y, rfl, n, m⟩ := ns.two
    have z1 := n.rp.i
    have z2 := m.rp.i
    subst z1 z2
    exact ⟨_, _, rfl, h.im P (.int _)⟩
  · cases e
    obtain ⟨x, rfl, n⟩ := ns.one
    have := n.rp.i
    subst this
    exact ⟨_, rfl, h.im P (.int _)⟩
  · cases e
    obtain ⟨x, rfl, n⟩ := ns.one
    have := n.rp.i
    subst this
    exact .inl ⟨_, rfl, h.im P (.int _)⟩
  · cases e
    obtain ⟨x, rfl, n⟩ := ns.one
    have := n.rp.b
    subst this
    exact .inr ⟨_, rfl, h.im P (.int _)⟩
  · split at e
    · rename_i c
      cases e
      obtain ⟨x, rfl, n⟩ := ns.one
      have := n.rp.i
      subst this
      exact ⟨_, rfl, c, h.im P (.str _)⟩
    · cases e
  · obtain ⟨ms, e1, e2⟩ := Option.map_eq_some_iff.mp e
    subst e2
    obtain ⟨x, rfl, n⟩ := ns.one
    obtain ⟨p, us, rfl, hp, r⟩ := n.list
    have e3 := r.ints e1
    subst e3
    exact ⟨p, ms, rfl, hp.l, h.im P (.int _)⟩
  · obtain ⟨ms, e1, e2⟩ := Option.map_eq_some_iff.mp e
    subst e2
    obtain ⟨x, rfl, n⟩ := ns.one
    obtain ⟨p, us, rfl, hp, r⟩ := n.list
    have e3 := r.bools e1
    subst e3
    exact ⟨p, ms, rfl, hp.l, h.im P (.bl _)⟩
  · obtain ⟨ms, e1, e2⟩ := Option.map_eq_some_iff.mp e
    subst e2
    obtain ⟨x, rfl, n⟩ := ns.one
    obtain ⟨p, us, rfl, hp, r⟩ := n.list
    have e3 := r.bools e1
    subst e3
    exact ⟨p, ms, rfl, hp.l, h.im P (.bl _)⟩
  · cases e
    obtain ⟨x, rfl, n⟩ := ns.one
    obtain ⟨p, us, rfl, hp, r⟩ := n.list
    exact ⟨p, us, rfl, .inl ⟨hp.l, fun q nq => h.tup st P r q nq⟩⟩
  · cases e
    obtain ⟨x, rfl, n⟩ := ns.one
    obtain ⟨p, us, rfl, hp, hp2, r⟩ := n.tuple
    exact ⟨p, us, rfl, .inr ⟨hp, h.im P (.tup hp2 r)⟩⟩
  · cases e
    obtain ⟨x, rfl, n⟩ := ns.one
    obtain ⟨p, us, rfl, hp, r⟩ := n.list
    exact ⟨p, us, rfl, .inl hp.l, fun q nq => h.list st P r q nq⟩
  · cases e
    obtain ⟨x, rfl, n⟩ := ns.one
    obtain ⟨p, us, rfl, hp, hp2, r⟩ := n.tuple
    exact ⟨p, us, rfl, .inr hp, fun q nq => h.list st P r q nq⟩
  · cases e
theorem s_bi {f : Bi} {p : Pos} (k : Ctx X g W) (hg : Gl X f.name) (hm : X.mg f.name = none) (hs : (ea :: es).all noStar = true) (ha : PA X (ea :: es) (semA g sg call W as)) : PE X (.Call (.Name f.name p) (ea :: es) [] pos) (semE g sg call W (.bi f as)) := by
  rw [List.all_cons, Bool.and_eq_true] at hs
  have o := call_bi k f
  rw [k.K] at o
  have base : PE X (.Call (.Name f.name p) (ea :: es) [] pos) (tCB (biR g.K f) (semA g sg call W as)) := by
    have hb := f.boot
    cases e : f.ty with
    | none =>
      have ev : f.val = .builtin f.id := by unfold Bi.val; rw [e]
      rw [ev] at o hb
      exact pe_callB o hg hm hb ha f.nn f.nd (star1 hs.1 es X.env) (stars hs.2)
    | some t =>
      have ev : f.val = .type t := by unfold Bi.val; rw [e]
      rw [ev] at o hb
      exact pe_callTy o hg hm hb ha f.nn f.nd (star1 hs.1 es X.env) (stars hs.2)
  refine PE.imp (fun σ H Q hq => ?_) base
  obtain ⟨env, Mu, st, hw⟩ := hq
  simp only [den, ofE, wpR_bind] at hw
  refine semA_of st hw (fun _ _ x => x) fun ts env1 vs H1 M1 P1 o1 hw => ?_
  obtain ⟨ds, ns, hw⟩ := looks_ok o1 P1.st hw
  obtain ⟨s, e, hw⟩ := wpR_lift.mp hw
  exact bi_use st P1 ns e hw
theorem maxL_eq {k m : Int} : ∀ {ns : List Int}, m ∈ ns → (∀ y, y ∈ ns → y ≤ m) → maxL k ns = m
  | [], h, _ => nomatch h
  | n :: r, h, hm => by
    have key : ∀ (r : List Int) (a : Int), (m = a ∨ m ∈ r) → a ≤ m → (∀ y, y ∈ r → y ≤ m) → r.foldl (fun a b => if a < b then b else a) a = m := by
      intro r
      induction r with
      | nil => exact fun a h _ _ => h.elim Eq.symm fun z => nomatch z
      | cons b r ih =>
        intro a h ha hr
        have hb := hr b (List.mem_cons_self ..)
        refine ih _ ?_ ?_ fun y hy => hr y (List.mem_cons_of_mem _ hy)
        · rcases h with rfl | h
          · exact .inl (by dsimp only; split <;> omega)
          · rcases List.mem_cons.mp h with rfl | h
            · exact .inl (by dsimp only; split <;> omega)
            · exact .inr h
        · dsimp only
          split <;> omega
    refine key r n ?_ (hm n (List.mem_cons_self ..)) fun y hy => hm y (List.mem_cons_of_mem _ hy)
    rcases List.mem_cons.mp h with z | z
    · exact .inl z
    · exact .inr z
theorem s_mxd {p kp : Pos} (k : Ctx X g W) (hg : Gl X "max") (hm : X.mg "max" = none) (hs : noStar ea = true) (ha : PE X ea (semP g sg call W a)) (hb : PE X eb (semP g sg call W b)) :
    PE X (.Call (.Name "max" p) [ea] [⟨some "default", eb, kp⟩] pos) (semE g sg call W (.mxd a b)) := by
  have o := cr_maxDf k.calm
  rw [k.K] at o
  have base := pe_callBK (p := p) (pos := pos) o hg hm boot_max (pa_cons ha pa_nil (star1 hs [] X.env)) (pk_cons (nm := some ("default" : Str)) (kpos := kp) hb pk_nil) (by decide) (by decide) (by rw [star1 hs]; rfl) (by rw [star1 hs]; rfl)
  refine PE.imp (fun σ H Q hq => ?_) base
  obtain ⟨env, Mu, st, hw⟩ := hq
  simp only [den, ofE, wpR_bind] at hw
  refine semP_of st hw (fun _ _ x => x) fun t1 env1 v1 H1 M1 P1 o1 hw => ?_
  show semP g sg call W b σ H1 _
  refine semP_of P1.st hw (ExP.step st P1) fun t2 env2 v2 H2 M2 P2 o2 hw => ?_
  have P := P1.trans st P2
  obtain ⟨dx, nx, hw⟩ := look_ok P2.st (o1.up P2.fr.grows).ok hw
  obtain ⟨j, rfl, hw⟩ := intOf_ok P2.st o2.ok hw
  cases dx with
  | list xs =>
    obtain ⟨ns, e, hw⟩ := wpR_lift.mp (wpR_bind.mp hw)
    obtain ⟨q, us, rfl, hp, r⟩ := nx.list
    have e3 := r.ints e
    subst e3
    refine ⟨q, ns, _, rfl, rfl, hp.l, fun z => ?_, fun m m1 m2 => ?_⟩
    · subst z
      exact hw _ H2 M2 P (.int _) trivial
    · have e4 : maxL j ns = m := maxL_eq m1 m2
      rw [e4] at hw
      exact hw _ H2 M2 P (.int _) trivial
  | _ => exact hw.elim
end
end Ev
end
section
namespace Ev
open PySem PySem.Spec PyProof.Rows L2

/-- J walks data items, as long as what is never changed stands -/
structure Yields (g : Gx) (J : It) (items : List D) (G : Hp) : Prop where
  step : ∀ (H : Hp) (Mu : Addr → Prop), Grows G (hid H Mu) → ∀ (i : Nat) (d : D), items[i]? = some d → J.go i H ∧ ∀ x H1, J.yld i H x H1 → (H1 = H ∨ ∃ T xs, H T = none ∧ H1 = upd H T (.tup xs)) ∧ ((∀ p, Mu p → H p ≠ none) → Rp g.K (hid H1 Mu) x d)
  stop : ∀ (H : Hp) (Mu : Addr → Prop), Grows G (hid H Mu) → ∀ (i : Nat), items.length ≤ i → J.stop i H
section
variable (g : Gx) (sg : Sig) (call : Call) (W : WX)
def semI (c : C) : TI := fun σ H R => ∃ env Mu, Sta g env σ H Mu ∧ wpR ((den sg call g.pins c).I env) (fun ds env' => ∀ J H' Mu', Post g env σ H Mu env' σ H' Mu' → Yields g J ds (hid H' Mu') → R J H') (ExP g W env σ H Mu)
/-- a target takes data -/
def semG (c : C) : TG := fun v σ H Q => ∃ env Mu d, Sta g env σ H Mu ∧ Rp g.K (hid H Mu) v d ∧ wpR ((den sg call g.pins c).G d env) (fun _ env' => ∀ σ', Post g env σ H Mu env' σ' H Mu → Q σ' H) (fun _ _ => False)
def semGs (c : C) : TGs := fun vs σ H Q => ∃ env Mu ds, Sta g env σ H Mu ∧ RpAll g.K (hid H Mu) vs ds ∧ wpR (stores (den sg call g.pins c).Gs ds env) (fun _ env' => ∀ σ', Post g env σ H Mu env' σ' H Mu → Q σ' H) (fun _ _ => False)
end

section
variable {X : Cx} {g : Gx} {sg : Sig} {call : Call} {W : WX} {a b c as lo hi : C} {ea eb ec tg : Expr} {es : List Expr} {pos : Pos}
variable {env env1 env2 : Env} {σ σ1 σ2 : L2.St} {H H1 H2 : Hp} {Mu M1 M2 : Addr → Prop} {v w : V}

/-- a list or a tuple -/
def iSeq (K : PySem.W.Frag) (tl : TE) : TI := fun σ H R => tl σ H fun x H1 => ∃ p, x = .ref p ∧ (((∃ xs, SqL K H1 p xs) ∧ R (Itl K p) H1) ∨ ((∃ xs, SqT K H1 p xs) ∧ R (Itt K p) H1))
theorem pi_seq {tl : TE} (he : PE X ea tl) : PI X tg ea (iSeq X.K tl) := by
  refine ⟨fun pins s σ H R I h => thn (he.run pins s σ H _ I h) fun v s1 ⟨x, H1, I1, r1, p, ex, q⟩ => ?_⟩
  subst ex
  obtain rfl : v = Value.ref p := r1
  have fresh : ∀ b ∈ [s1.heap.objs.size], FpOk X pins H1 b := fun b hb => by
    rw [List.mem_singleton] at hb
    subst hb
    exact I1.fpOk (Nat.le_refl _) I1.fresh
  have keep : ∀ (o : Obj) (b : Addr) (u : Obj), s1.heap.get? b = some u → (s1.heap.push o).get? b = some u := fun o b u e => Heap.get?_push_of_some _ e
  rcases q with ⟨⟨xs, hs⟩, q⟩ | ⟨⟨xs, hs⟩, q⟩
  · obtain ⟨its, rv, pl, _⟩ := I1.list hs
    exact wpAny_pyIter_list pl.isList ⟨_, [s1.heap.objs.size], _, _, H1, rfl, I1.kept (t' := s1.toks) (keep _), turn_list p _, ⟨_, Heap.get?_push_size _ rfl, rfl, rfl⟩, fresh, q⟩
  · obtain ⟨its, rv, pt, _⟩ := I1.tuple hs
    exact wpAny_pyIter_tuple (show s1.heap.IsTuple p its.toArray from pt) ⟨_, [s1.heap.objs.size], _, _, H1, rfl, I1.kept (t' := s1.toks) (keep _), turn_tuple p _, ⟨_, Heap.get?_push_size _ rfl, rfl, rfl⟩, fresh, q⟩
theorem yields_list {p : Addr} {vs : List V} {ds : List D} {G : Hp} (h : SqL g.K G p vs) (r : RpAll g.K G vs ds) : Yields g (Itl g.K p) ds G where
  step := fun H Mu e i d hd => by
    obtain ⟨x, hx, rx⟩ := r.get hd
    have hs : SqL g.K H p vs := Evl.ex_l (fun a o q => hid_le H Mu a o (e a o q)) h
    refine ⟨⟨vs, x, hs, hx⟩, fun y H1 hy => ?_⟩
    obtain ⟨rfl, hy⟩ := hy
    have := (hy vs hs).symm.trans hx
    obtain rfl : y = x := (Option.some.inj this.symm).symm
    exact ⟨.inl rfl, fun _ => rx.up e⟩
  stop := fun H Mu e i hi => ⟨vs, Evl.ex_l (fun a o q => hid_le H Mu a o (e a o q)) h, by rw [r.length]; exact hi⟩
theorem yields_tup {p : Addr} {vs : List V} {ds : List D} {G : Hp} (h : SqT g.K G p vs) (r : RpAll g.K G vs ds) : Yields g (Itt g.K p) ds G where
  step := fun H Mu e i d hd => by
    obtain ⟨x, hx, rx⟩ := r.get hd
    have hs : SqT g.K H p vs := Evl.ex_t (fun a o q => hid_le H Mu a o (e a o q)) h
    refine ⟨⟨vs, x, hs, hx⟩, fun y H1 hy => ?_⟩
    obtain ⟨rfl, hy⟩ := hy
    have := (hy vs hs).symm.trans hx
    obtain rfl : y = x := (Option.some.inj this.symm).symm
    exact ⟨.inl rfl, fun _ => rx.up e⟩
  stop := fun H Mu e i hi => ⟨vs, Evl.ex_t (fun a o q => hid_le H Mu a o (e a o q)) h, by rw [r.length]; exact hi⟩
theorem itemsOf_use {d : D} {xs : List D} {R : It → Hp → Prop} (r : Rp g.K (hid H Mu) v d) (e : itemsOf d = some xs) (h : ∀ J, Yields g J xs (hid H Mu) → R J H) :
    ∃ p, v = .ref p ∧ (((∃ us, SqL g.K H p us) ∧ R (Itl g.K p) H) ∨ ((∃ us, SqT g.K H p us) ∧ R (Itt g.K p) H)) := by
  cases r with
  | lst hs ha =>
    cases e
    exact ⟨_, rfl, .inl ⟨⟨_, (hs.mono (hid_le _ _)).l⟩, h _ (yields_list hs.l ha)⟩⟩
  | tup hs ha =>
    cases e
    exact ⟨_, rfl, .inr ⟨⟨_, Evl.ex_t (hid_le _ _) hs⟩, h _ (yields_tup hs ha)⟩⟩
  | _ => cases e
theorem s_iE (k : Ctx X g W) (ha : PE X ea (semP g sg call W a)) : PI X tg ea (semI g sg call W (.iE a)) := by
  have o := pi_seq (tg := tg) ha
  rw [k.K] at o
  refine PI.imp (fun σ H R hq => ?_) o
  obtain ⟨env, Mu, st, hw⟩ := hq
  simp only [den, wpR_bind] at hw
  refine semP_of st hw (fun _ _ x => x) fun t env1 v H1 M1 P1 o1 hw => ?_
  obtain ⟨d, env2, M2, hw, P2, r⟩ := shareD_ok P1.st o1 hw
  obtain ⟨xs, e, hw⟩ := wpR_lift.mp hw
  exact itemsOf_use r e fun J y => hw J H1 M2 (P1.trans st P2) y
theorem rangeD_get {lo : Int} {n i : Nat} {d : D} (h : (rangeD lo n)[i]? = some d) : i < n ∧ d = .int (lo + (i : Int)) := by
  unfold rangeD at h
  rw [List.getElem?_map] at h
  obtain ⟨k, e1, e2⟩ := Option.map_eq_some_iff.mp h
  obtain ⟨hk, e3⟩ := List.getElem?_eq_some_iff.mp e1
  rw [List.getElem_range] at e3
  rw [List.length_range] at hk
  subst e3
  exact ⟨hk, e2.symm⟩
theorem yields_range {lo : Int} {n : Nat} {G : Hp} : Yields g (Itr lo n) (rangeD lo n) G where
  step := fun H Mu e i d hd => by
    obtain ⟨hi, rfl⟩ := rangeD_get hd
    refine ⟨hi, fun x H1 hx => ?_⟩
    obtain ⟨rfl, rfl⟩ := hx
    exact ⟨.inl rfl, fun _ => .int _⟩
  stop := fun H Mu e i hi => by
    have : (rangeD lo n).length = n := by unfold rangeD; rw [List.length_map, List.length_range]
    show n ≤ i
    omega
theorem okI_iff {i : Int} (h : okI i = true) : -(2 ^ 62) ≤ i ∧ i < 2 ^ 62 := by
  unfold okI at h
  rw [Bool.and_eq_true] at h
  exact ⟨of_decide_eq_true h.1, of_decide_eq_true h.2⟩
theorem s_iR1 {p : Pos} (k : Ctx X g W) (hg : Gl X "range") (hm : X.mg "range" = none) (hs : noStar ea = true) (ha : PE X ea (semP g sg call W a)) : PI X tg (.Call (.Name "range" p) [ea] [] pos) (semI g sg call W (.iR1 a)) := by
  refine PI.imp (fun σ H R hq => ?_) (pi_range1 hg hm (pa_cons ha pa_nil (star1 hs [] X.env)) (star1 hs [] X.env))
  obtain ⟨env, Mu, st, hw⟩ := hq
  simp only [den, wpR_bind] at hw
  refine semP_of st hw (fun _ _ x => x) fun t env1 v H1 M1 P1 o1 hw => ?_
  obtain ⟨n, rfl, hw⟩ := intOf_ok P1.st o1.ok hw
  split at hw
  · rename_i c
    obtain ⟨c1, c2⟩ := okI_iff c
    exact ⟨n, rfl, c1, c2, hw _ H1 M1 P1 yields_range⟩
  · exact hw.elim
theorem s_iR2 {p : Pos} (k : Ctx X g W) (hg : Gl X "range") (hm : X.mg "range" = none) (hs : noStar ea = true) (hs2 : noStar eb = true) (ha : PE X ea (semP g sg call W a)) (hb : PE X eb (semP g sg call W b)) : PI X tg (.Call (.Name "range" p) [ea, eb] [] pos) (semI g sg call W (.iR2 a b)) := by
  have s2 := star1 hs2 [] X.env
  refine PI.imp (fun σ H R hq => ?_) (pi_range2 hg hm (pa_cons ha (pa_cons hb pa_nil s2) (star1 hs [eb] X.env)) (by rw [star1 hs, s2]; rfl) s2)
  obtain ⟨env, Mu, st, hw⟩ := hq
  simp only [den, wpR_bind] at hw
  refine semP_of st hw (fun _ _ x => x) fun t env1 v H1 M1 P1 o1 hw => ?_
  refine semP_of P1.st hw (ExP.step st P1) fun t2 env2 v2 H2 M2 P2 o2 hw => ?_
  obtain ⟨i, rfl, hw⟩ := intOf_ok P2.st (o1.up P2.fr.grows).ok hw
  obtain ⟨j, rfl, hw⟩ := intOf_ok P2.st o2.ok hw
  split at hw
  · rename_i c
    obtain ⟨c1, c2⟩ := okI_iff c.1
    obtain ⟨c3, c4⟩ := okI_iff c.2
    exact ⟨i, j, rfl, ⟨c1, c2, c3, c4⟩, hw _ H2 M2 (P1.trans st P2) yields_range⟩
  · exact hw.elim
theorem rev_get {α : Type} {l : List α} {i : Nat} {x : α} (h : l.reverse[i]? = some x) : i < l.length ∧ l[l.length - 1 - i]? = some x := by
  have hl : i < l.length := by
    have := (List.getElem?_eq_some_iff.mp h).1
    simpa using this
  rw [List.getElem?_reverse hl] at h
  exact ⟨hl, h⟩
theorem yields_rl {p : Addr} {vs : List V} {ds : List D} {G : Hp} (h : SqL g.K G p vs) (r : RpAll g.K G vs ds) : Yields g (Itv g.K p vs.length) ds.reverse G where
  step := fun H Mu e i d hd => by
    obtain ⟨hl, hd'⟩ := rev_get hd
    obtain ⟨x, hx, rx⟩ := r.get hd'
    rw [← r.length] at hx hl
    have hs : SqL g.K H p vs := Evl.ex_l (fun a o q => hid_le H Mu a o (e a o q)) h
    refine ⟨⟨hl, vs, x, hs, hx⟩, fun y H1 hy => ?_⟩
    obtain ⟨rfl, hy⟩ := hy
    have := (hy vs hs).symm.trans hx
    obtain rfl : y = x := (Option.some.inj this.symm).symm
    exact ⟨.inl rfl, fun _ => rx.up e⟩
  stop := fun H Mu e i hi => by
    rw [List.length_reverse, ← r.length] at hi
    exact hi
theorem yields_rt {p : Addr} {vs : List V} {ds : List D} {G : Hp} (h : SqT g.K G p vs) (r : RpAll g.K G vs ds) : Yields g (RT.ItvT g.K p vs.length) ds.reverse G where
  step := fun H Mu e i d hd => by
    obtain ⟨hl, hd'⟩ := rev_get hd
    obtain ⟨x, hx, rx⟩ := r.get hd'
    rw [← r.length] at hx hl
    have hs : SqT g.K H p vs := Evl.ex_t (fun a o q => hid_le H Mu a o (e a o q)) h
    refine ⟨⟨hl, vs, x, hs, hx⟩, fun y H1 hy => ?_⟩
    obtain ⟨rfl, hy⟩ := hy
    have := (hy vs hs).symm.trans hx
    obtain rfl : y = x := (Option.some.inj this.symm).symm
    exact ⟨.inl rfl, fun _ => rx.up e⟩
  stop := fun H Mu e i hi => by
    rw [List.length_reverse, ← r.length] at hi
    exact hi
theorem s_iRv {p : Pos} (k : Ctx X g W) (hg : Gl X "reversed") (hm : X.mg "reversed" = none) (hs : noStar ea = true) (ha : PE X ea (semP g sg call W a)) : PI X tg (.Call (.Name "reversed" p) [ea] [] pos) (semI g sg call W (.iRv a)) := by
  have o := RT.pi_revA (tg := tg) (p := p) (pos := pos) hg hm ha (star1 hs [] X.env)
  rw [k.K] at o
  refine PI.imp (fun σ H R hq => ?_) o
  obtain ⟨env, Mu, st, hw⟩ := hq
  simp only [den, wpR_bind] at hw
  refine semP_of st hw (fun _ _ x => x) fun t env1 v H1 M1 P1 o1 hw => ?_
  obtain ⟨d, env2, M2, hw, P2, r⟩ := shareD_ok P1.st o1 hw
  obtain ⟨xs, e, hw⟩ := wpR_lift.mp hw
  have P := P1.trans st P2
  cases r with
  | lst hs ha =>
    cases e
    exact ⟨_, _, rfl, .inl ⟨(hs.mono (hid_le _ _)).l, hw _ H1 M2 P (yields_rl hs.l ha)⟩⟩
  | tup hs ha =>
    cases e
    exact ⟨_, _, rfl, .inr ⟨Evl.ex_t (hid_le _ _) hs, hw _ H1 M2 P (yields_rt hs ha)⟩⟩
  | _ => cases e
end
end Ev
end
section
namespace Ev
open PySem PySem.Spec PyProof.Rows L2
theorem en_meets {v : Value} {ob : Obj} {P : Heap → Prop} (B : Begins v ob P) :
    Meets (Builtin.«enumerate.__new__» ⟨[.type "enumerate", v], []⟩) (fun _ R s => P s.heap ∧
      R (.ok (.ret (.ref (s.heap.push ob).objs.size))) { s with heap := (s.heap.push ob).push { cls := .type "enumerate", data := .fields #[.none, .bool false, .ref s.heap.objs.size, rawInt 0, .none, .none] } }) :=
  .of_wp fun prog w A R s hyp => by
    obtain ⟨hh, gg, dd, kk, oo⟩ := s
    obtain ⟨p1, hyp⟩ := hyp
    have sub := sub_enumerate
    have walk : ∀ {A' : Around} {E : Value → Shared → Prop} {Q : Value → Shared → Prop}, Q (.ref hh.objs.size) ⟨hh.push ob, gg, dd, kk, oo⟩ → wpAny (model prog w) A' (pyIter v) Q E ⟨hh, gg, dd, kk, oo⟩ := fun q => B.iter prog w _ _ ⟨hh, gg, dd, kk, oo⟩ _ p1 q
    wp_walk using walk
    refine wpAny_stack_any fun st => wpAny_pure ?_
    split
    · rename_i c _ _ _ _ _
      cases (c == Value.type "enumerate")
      all_goals
        wp_walk using walk
        exact ⟨_, rfl, hyp⟩
    · wp_walk using walk
      exact ⟨_, rfl, hyp⟩
section
variable {prog : Program} {w : World} {A : Around} {E : Value → Shared → Prop} {s : Shared}
theorem en_begins {v : Value} {ob : Obj} {P : Heap → Prop} {Q : Value → Shared → Prop} (B : Begins v ob P) (p1 : P s.heap)
    (k : ∀ h', IsEnum h' (s.heap.objs.size + 1) s.heap.objs.size 0 .none → h'.get? s.heap.objs.size = some ob → (∀ b u, s.heap.get? b = some u → h'.get? b = some u) → Q (.ref (s.heap.objs.size + 1)) { s with heap := h' }) : wpAny (model prog w) A (call (.type "enumerate") [v]) Q E s := by
  have z1 : (s.heap.push ob).objs.size = s.heap.objs.size + 1 := Heap.size_push ..
  refine callType_new F.called_enumerate (by decide) (F.typeCall_enumerate_1 _) (F.newCall_enumerate_1 _) (fun o => F.args_object_init_2 o _) F.entry_enumerate_new (en_meets B) ⟨p1, ?_⟩
  show _ ∧ _
  rw [z1]
  have en : IsEnum ((s.heap.push ob).push { cls := .type "enumerate", data := .fields #[.none, .bool false, .ref s.heap.objs.size, rawInt 0, .none, .none] }) (s.heap.objs.size + 1) s.heap.objs.size 0 .none := by
    have q := Heap.get?_push_size (s.heap.push ob) (o := { cls := .type "enumerate", data := .fields #[.none, .bool false, .ref s.heap.objs.size, rawInt 0, .none, .none] }) rfl
    rwa [z1] at q
  exact ⟨⟨_, en, rfl⟩, k _ en (Heap.get?_push_of_some _ (Heap.get?_push_size _ B.free)) fun b u x => Heap.get?_push_of_some _ (Heap.get?_push_of_some _ x)⟩
end
/-- the tuple at a, each item in a new pair -/
def ItE (K : PySem.W.Frag) (a : Addr) : It where
  go i H := ∃ (xs : List V) (x : V), SqT K H a xs ∧ xs[i]? = some x
  yld i H v H' := ∃ T x, v = .ref T ∧ H T = none ∧ H' = upd H T (.tup [.int (i : Nat), x]) ∧ ∀ xs, SqT K H a xs → xs[i]? = some x
  stop i H := ∃ xs : List V, SqT K H a xs ∧ xs.length ≤ i
theorem turn_en {P : Program} {w : World} {K : PySem.W.Frag} {elts : List Expr} {kk : Nat} {tpos : Pos} (a e it : Addr) :
    Turn P w K (.Tuple elts kk tpos) (ItE K a) [e, it] e (fun i h => (∃ old, IsEnum h e it ((i : Nat) : Int) old) ∧ h.IsTupleIter it a i ∧ e ≠ it ∧ a ≠ it ∧ a ≠ e) where
  mem := List.mem_cons_self ..
  obj := fun i h st b hb => by
    obtain ⟨⟨old, he⟩, ⟨u, hu, hc, hd⟩, _⟩ := st
    rcases List.mem_cons.mp hb with z | z
    · subst z
      exact ⟨_, he, fun v q => nomatch q⟩
    · rw [List.mem_singleton.mp z]
      exact ⟨u, hu, fun v q => by rw [hd] at q; cases q⟩
  keep := fun i h h' st k => ⟨st.1.imp fun old he => k e (List.mem_cons_self ..) _ he, st.2.1.at fun u q => k it (by simp) u q, st.2.2⟩
  item := by
    intro X hP hw hK hc i pins s σ H E I hf st hg
    subst hP hw hK
    obtain ⟨⟨old, he⟩, hit, hne, hai, hae⟩ := st
    obtain ⟨xs, x, hq, hx⟩ := hg
    obtain ⟨its, rv, pt, _⟩ := I.tuple hq
    obtain ⟨u, hu, ru⟩ := rv.get hx
    have hel := Heap.lt_size he
    have hil : it < s.heap.objs.size := by
      obtain ⟨_, q, _⟩ := hit
      exact Heap.lt_size q
    have hlt : i < its.toArray.size := by
      have := (List.getElem?_eq_some_iff.mp hu).1
      simpa using this
    refine wpAny_pyNext_enum_itemC (Draws.tuple (A := X.A.in1) (I.ok.hd hc) it a hai its.toArray) he ⟨hit, pt⟩ hlt hne (by simp [hne, Ne.symm hae]) fun y h' tk hy ho hit' hT hsz hk => ?_
    have eu : u = y := by
      have q : its.toArray[i]? = some u := by simpa using hu
      rw [q] at hy
      exact Option.some.inj hy
    subst eu
    refine ⟨_, rfl, wpAny_letOwnedTupleGo_enum (s := { s with heap := h', toks := tk + 1 }) ho fun h'' he' sb => ?_⟩
    have hT2 : h''.get? s.heap.objs.size = some { cls := .type "tuple", data := .seq #[.int i tk, u] } := (sb.2 _ (Nat.ne_of_gt hel)).trans hT
    have new : ObjOk X.prog X.w (upd H s.heap.objs.size (.tup [.int (i : Nat), x])) h'' s.heap.objs.size (.tup [.int (i : Nat), x]) :=
      ⟨by show 2 ≤ sizeLine; decide, [.int i tk, u], .cons ⟨_, rfl⟩ (.cons ru .nil), ⟨_, hT2, rfl, _, rfl⟩⟩
    have away : ∀ {b : Addr}, b ∉ [e, it] → b ≠ e ∧ b ≠ it := fun hb => ⟨fun z => hb (by simp [z]), fun z => hb (by simp [z])⟩
    have I1 : Inv X pins σ (upd H s.heap.objs.size (.tup [.int (i : Nat), x])) { s with heap := h'', toks := tk + 1 } :=
      I.turnedNew (ch := [e, it]) (fun b ob hb q => (sb.2 b (away hb).1).trans (hk b ob (away hb).1 (away hb).2 q)) hf (Nat.le_refl _) new
    have ei : ((i + 1 : Nat) : Int) = (i : Int) + 1 := by omega
    refine ⟨.ref s.heap.objs.size, _, I1, rfl, ⟨_, x, rfl, I.hok.fresh (Nat.le_refl _), rfl, fun ys hy => ?_⟩, ⟨⟨u, by rw [ei]; exact he'⟩, hit'.1.at fun o q => (sb.2 it (Ne.symm hne)).trans q, hne, hai, hae⟩, fun b hb => ?_⟩
    · rw [I.tuple_inj hy hq]
      exact hx
    · have hb2 : b < s.heap.objs.size := by
        rcases List.mem_cons.mp hb with z | z
        · rw [z]; exact hel
        · rw [List.mem_singleton.mp z]; exact hil
      rw [upd_ne (Nat.ne_of_lt hb2)]
      exact (hf b hb).1
  done := by
    intro X hP hw hK hc i pins s σ H E I hf st hg
    subst hP hw hK
    obtain ⟨⟨old, he⟩, hit, hne, hai, hae⟩ := st
    obtain ⟨xs, hq, hx⟩ := hg
    obtain ⟨its, rv, pt, _⟩ := I.tuple hq
    obtain ⟨f0, f1, f2, f3, f4, f5⟩ := hf it (by simp)
    have hl := rv.length
    have D : Draws X.prog X.w X.A.in1 it [it, a] i (fun j v => its.toArray[j]? = some v) (fun j h => j = i ∧ h.IsTupleIter it a i ∧ h.IsTuple a its.toArray) :=
      { live := fun j h st => by
          obtain ⟨u, hu, _⟩ := st.2.1
          exact ⟨u, hu⟩
        frame := fun j h h' st k => ⟨st.1, st.2.1.at fun u q => k it (by simp) u q, st.2.2.at fun u q => k a (by simp) u q⟩
        item := fun j s Q E hj st _ => absurd st.1 (Nat.ne_of_lt hj)
        done := fun s Q E st hE => wpAny_nextOf_tuple_end (A := X.A.in1) (I.ok.hd hc) st.2.1 st.2.2 (by simp; omega) hE }
    exact wpAny_pyNext_enum_endD D he ⟨rfl, hit, pt⟩ fun h' eb => ⟨rfl, I.turned (t' := s.toks) (fun b o hb q => eb b o hb q) f0 f1 f3 f4 f5⟩
  self := fun A i s Q E st h => let ⟨⟨_, he⟩, _⟩ := st; wpAny_pyIter_enum he h
/-- a list's, a tuple's -/
def iEn (K : PySem.W.Frag) (ta : TA) : TI := fun σ H R => ta σ H fun vs H1 => ∃ a, vs = [.ref a] ∧ (((∃ xs, SqL K H1 a xs) ∧ R (Ite K a) H1) ∨ ((∃ xs, SqT K H1 a xs) ∧ R (ItE K a) H1))
theorem pi_en {X : Cx} {e : Expr} {ta : TA} {p pos tpos : Pos} {elts : List Expr} {kk : Nat} (hg : Gl X "enumerate") (hm : X.mg "enumerate" = none) (ha : PA X [e] ta) (hs : starEach [e] X.env = [(false, eval e X.env)]) :
    PI X (.Tuple elts kk tpos) (.Call (.Name "enumerate" p) [e] [] pos) (iEn X.K ta) := by
  refine ⟨fun pins s σ H R I h => Call_ (ld_blt I hg hm boot_enumerate (PyProof.Rows.callWith_type1 (thn (ha.run pos pins s σ H _ I h) fun us s1 ⟨vs, H1, I1, r1, q1⟩ => ?_) hs rfl))⟩
  obtain ⟨a, ex, q⟩ := q1
  subst ex
  have fresh : ∀ b ∈ [s1.heap.objs.size + 1, s1.heap.objs.size], FpOk X pins H1 b := fun b hb => by
    have hle : s1.heap.objs.size ≤ b := by
      rcases List.mem_cons.mp hb with z | z
      · rw [z]; exact Nat.le_add_right _ _
      · rw [List.mem_singleton.mp z]; exact Nat.le_refl _
    exact I1.fpOk hle (I1.hok.fresh hle)
  cases r1 with
  | cons r rr =>
    cases rr
    cases r
    rcases q with ⟨⟨xs, hq⟩, q⟩ | ⟨⟨xs, hq⟩, q⟩
    · obtain ⟨its, rv, pl, _⟩ := I1.list hq
      exact call_enumerate_list pl.isList fun h' he hit hsz hk => wpAny_pyIter_enum he ⟨s1.heap.objs.size + 1, [s1.heap.objs.size + 1, s1.heap.objs.size], _, _, H1, rfl, I1.kept (t' := s1.toks) hk, turn_enum a (s1.heap.objs.size + 1) s1.heap.objs.size, ⟨⟨.none, he⟩, hit, Nat.succ_ne_self _⟩, fresh, q⟩
    · obtain ⟨its, rv, pt, _⟩ := I1.tuple hq
      have hlt : a < s1.heap.objs.size := by
        obtain ⟨u, hu, _⟩ := (show s1.heap.IsTuple a its.toArray from pt)
        exact Heap.lt_size hu
      refine en_begins (begins_tuple a its.toArray) pt fun h' he hit hk => wpAny_pyIter_enum he ⟨s1.heap.objs.size + 1, [s1.heap.objs.size + 1, s1.heap.objs.size], _, _, H1, rfl, I1.kept (t' := s1.toks) hk, turn_en a (s1.heap.objs.size + 1) s1.heap.objs.size, ⟨⟨.none, he⟩, ⟨_, hit, rfl, rfl⟩, Nat.succ_ne_self _, Nat.ne_of_lt hlt, Nat.ne_of_lt (Nat.lt_succ_of_lt hlt)⟩, fresh, q⟩
section
variable {X : Cx} {g : Gx} {sg : Sig} {call : Call} {W : WX} {a b c as lo hi : C} {ea eb ec tg : Expr} {es : List Expr} {pos : Pos}
variable {env env1 env2 : Env} {σ σ1 σ2 : L2.St} {H H1 H2 : Hp} {Mu M1 M2 : Addr → Prop} {v w : V}
theorem enumD_get {ds : List D} {i : Nat} {d : D} (h : (enumD ds)[i]? = some d) : ∃ e, ds[i]? = some e ∧ d = .tuple [.int (i : Int), e] := by
  unfold enumD at h
  rw [List.getElem?_map] at h
  obtain ⟨p, e1, e2⟩ := Option.map_eq_some_iff.mp h
  rw [List.getElem?_zipIdx] at e1
  obtain ⟨e, e3, e4⟩ := Option.map_eq_some_iff.mp e1
  subst e4
  exact ⟨e, e3, by rw [← e2]; simp⟩
theorem pair_rp {G : Hp} {T : Addr} {i : Int} {x : V} {d : D} (hT : G T = some (.tup [.int i, x])) (r : Rp g.K G x d) : Rp g.K G (.ref T) (.tuple [.int i, d]) :=
  .tup (.inl (.inl hT)) (.cons (.int i) (.cons r .nil))
theorem new_rp {T : Addr} {i : Int} {x : V} {d : D} (n : H T = none) (mh : ∀ p, Mu p → H p ≠ none) (r : Rp g.K (hid H Mu) x d) : Rp g.K (hid (upd H T (.tup [.int i, x])) Mu) (.ref T) (.tuple [.int i, d]) := by
  have nm : ¬ Mu T := fun z => mh T z n
  exact pair_rp (hid_some.mpr ⟨nm, upd_same⟩) (r.up (Fr.newI (O := fun _ => False) mh n).grows)
theorem yields_enL {p : Addr} {vs : List V} {ds : List D} {G : Hp} (h : SqL g.K G p vs) (r : RpAll g.K G vs ds) : Yields g (Ite g.K p) (enumD ds) G where
  step := fun H Mu e i d hd => by
    obtain ⟨d0, hd0, rfl⟩ := enumD_get hd
    obtain ⟨x, hx, rx⟩ := r.get hd0
    have hs : SqL g.K H p vs := Evl.ex_l (fun a o q => hid_le H Mu a o (e a o q)) h
    refine ⟨⟨vs, x, hs, hx⟩, fun y H1 hy => ?_⟩
    obtain ⟨T, x', rfl, n, rfl, hy⟩ := hy
    obtain rfl : x = x' := Option.some.inj (hx.symm.trans (hy vs hs))
    exact ⟨.inr ⟨T, _, n, rfl⟩, fun mh => new_rp n mh (rx.up e)⟩
  stop := fun H Mu e i hi => ⟨vs, Evl.ex_l (fun a o q => hid_le H Mu a o (e a o q)) h, by
    have : (enumD ds).length = ds.length := by simp [enumD]
    rw [r.length]
    omega⟩
theorem yields_enT {p : Addr} {vs : List V} {ds : List D} {G : Hp} (h : SqT g.K G p vs) (r : RpAll g.K G vs ds) : Yields g (ItE g.K p) (enumD ds) G where
  step := fun H Mu e i d hd => by
    obtain ⟨d0, hd0, rfl⟩ := enumD_get hd
    obtain ⟨x, hx, rx⟩ := r.get hd0
    have hs : SqT g.K H p vs := Evl.ex_t (fun a o q => hid_le H Mu a o (e a o q)) h
    refine ⟨⟨vs, x, hs, hx⟩, fun y H1 hy => ?_⟩
    obtain ⟨T, x', rfl, n, rfl, hy⟩ := hy
    obtain rfl : x = x' := Option.some.inj (hx.symm.trans (hy vs hs))
    exact ⟨.inr ⟨T, _, n, rfl⟩, fun mh => new_rp n mh (rx.up e)⟩
  stop := fun H Mu e i hi => ⟨vs, Evl.ex_t (fun a o q => hid_le H Mu a o (e a o q)) h, by
    have : (enumD ds).length = ds.length := by simp [enumD]
    rw [r.length]
    omega⟩
theorem s_iEn {p tpos : Pos} {elts : List Expr} {kk : Nat} (k : Ctx X g W) (hg : Gl X "enumerate") (hm : X.mg "enumerate" = none) (hs : noStar ea = true) (ha : PE X ea (semP g sg call W a)) : PI X (.Tuple elts kk tpos) (.Call (.Name "enumerate" p) [ea] [] pos) (semI g sg call W (.iEn a)) := by
  have o := pi_en (p := p) (pos := pos) (tpos := tpos) (elts := elts) (kk := kk) hg hm (pa_cons ha pa_nil (star1 hs [] X.env)) (star1 hs [] X.env)
  rw [k.K] at o
  refine PI.imp (fun σ H R hq => ?_) o
  obtain ⟨env, Mu, st, hw⟩ := hq
  simp only [den, wpR_bind] at hw
  refine semP_of st hw (fun _ _ x => x) fun t env1 v H1 M1 P1 o1 hw => ?_
  obtain ⟨d, env2, M2, hw, P2, r⟩ := shareD_ok P1.st o1 hw
  obtain ⟨xs, e, hw⟩ := wpR_lift.mp hw
  have P := P1.trans st P2
  cases r with
  | lst hs' hr =>
    cases e
    exact ⟨_, rfl, .inl ⟨⟨_, (hs'.mono (hid_le _ _)).l⟩, hw _ H1 M2 P (yields_enL hs'.l hr)⟩⟩
  | tup hs' hr =>
    cases e
    exact ⟨_, rfl, .inr ⟨⟨_, Evl.ex_t (hid_le _ _) hs'⟩, hw _ H1 M2 P (yields_enT hs' hr)⟩⟩
  | _ => cases e
end
end Ev
end
section
namespace Ev
open PySem PySem.Spec PyProof.Rows L2

/-- the slots that a target stores -/
def tgS : C → List Nat
  | .tN i => [i]
  | .tT ts => tgS ts
  | .cons a as => tgS a ++ tgS as
  | _ => []
section
variable (g : Gx) (sg : Sig) (call : Call) (W : WX)
/-- only some slots are other ones -/
def Else (vs : List Nat) (σ σ' : L2.St) : Prop := σ'.length = σ.length ∧ ∀ j, j ∉ vs → σ'[j]? = σ[j]?
def tG (c : C) : TG := fun v σ H Q => ∃ env Mu d, Sta g env σ H Mu ∧ Rp g.K (hid H Mu) v d ∧ wpR ((den sg call g.pins c).G d env) (fun _ env' => ∀ σ', Post g env σ H Mu env' σ' H Mu → Else (tgS c) σ σ' → Q σ' H) (fun _ _ => False)
def tGs (c : C) : TGs := fun vs σ H Q => ∃ env Mu ds, Sta g env σ H Mu ∧ RpAll g.K (hid H Mu) vs ds ∧ wpR (stores (den sg call g.pins c).Gs ds env) (fun _ env' => ∀ σ', Post g env σ H Mu env' σ' H Mu → Else (tgS c) σ σ' → Q σ' H) (fun _ _ => False)
end
theorem Else.refl {vs : List Nat} {σ : L2.St} : Else vs σ σ := ⟨rfl, fun _ _ => rfl⟩
theorem Else.trans {vs us : List Nat} {σ σ1 σ2 : L2.St} (h : Else vs σ σ1) (k : Else us σ1 σ2) : Else (vs ++ us) σ σ2 :=
  ⟨k.1.trans h.1, fun j hj => (k.2 j fun z => hj (List.mem_append_right _ z)).trans (h.2 j fun z => hj (List.mem_append_left _ z))⟩
theorem Else.set {i : Nat} {v : Option V} {σ : L2.St} : Else [i] σ (σ.set i v) := ⟨List.length_set, fun j hj => List.getElem?_set_ne fun e => hj (by rw [e]; exact List.mem_singleton_self _)⟩

section
variable {X : Cx} {g : Gx} {sg : Sig} {call : Call} {W : WX} {a b c as : C} {ea eb ec tg : Expr} {es : List Expr} {pos : Pos}
variable {env env1 env2 : Env} {σ σ1 σ2 : L2.St} {H H1 H2 : Hp} {Mu M1 M2 : Addr → Prop} {v w : V}

theorem Sta.put {i : Nat} {s : Sl} (st : Sta g env σ H Mu) (np : i ∉ g.pins) (hs : SlOk g H Mu v s) (no : ∀ p, OwnAt H s v p → ¬ Own H env σ p) : Sta g (env.set i (some s)) (σ.set i (some v)) H Mu where
  sl := fun j sl e => by
    rcases getset e with ⟨rfl, hl, e'⟩ | ⟨ne, e'⟩
    · have e2 : sl = s := Option.some.inj e'
      subst e2
      exact ⟨v, List.getElem?_set_self (by rw [← st.len]; exact hl), hs⟩
    · rw [List.getElem?_set_ne (Ne.symm ne)]
      exact st.sl j sl e'
  inj := fun j k a b w w' p ej ek sj sk oj ok => by
    rcases getset ej with ⟨rfl, hl, e1⟩ | ⟨ne, e1⟩
    · rcases getset ek with ⟨rfl, _, e2⟩ | ⟨ne2, e2⟩
      · rfl
      · rw [List.getElem?_set_self (by rw [← st.len]; exact hl)] at sj
        rw [List.getElem?_set_ne (Ne.symm ne2)] at sk
        have ev : v = w := Option.some.inj (Option.some.inj sj)
        have es : a = s := Option.some.inj e1
        subst ev es
        exact (no p oj ⟨k, _, _, e2, sk, ok⟩).elim
    · rcases getset ek with ⟨rfl, hl, e2⟩ | ⟨ne2, e2⟩
      · rw [List.getElem?_set_self (by rw [← st.len]; exact hl)] at sk
        rw [List.getElem?_set_ne (Ne.symm ne)] at sj
        have ev : v = w' := Option.some.inj (Option.some.inj sk)
        have es : b = s := Option.some.inj e2
        subst ev es
        exact (no p ok ⟨j, _, _, e1, sj, oj⟩).elim
      · rw [List.getElem?_set_ne (Ne.symm ne)] at sj
        rw [List.getElem?_set_ne (Ne.symm ne2)] at sk
        exact st.inj j k _ _ _ _ p e1 e2 sj sk oj ok
  mh := st.mh
  pin := fun k hk => by
    rw [List.getElem?_set_ne fun e => np (by rw [e]; exact hk)]
    exact st.pin k hk
  len := by rw [List.length_set, List.length_set]; exact st.len
theorem Own.of_put {i : Nat} {s : Sl} {p : Addr} (h : Own H (env.set i (some s)) (σ.set i (some v)) p) (hl : env.length = σ.length) : Own H env σ p ∨ OwnAt H s v p := by
  obtain ⟨j, a, w, ej, sj, oj⟩ := h
  rcases getset ej with ⟨rfl, hl', e1⟩ | ⟨ne, e1⟩
  · rw [List.getElem?_set_self (by rw [← hl]; exact hl')] at sj
    have ev : v = w := Option.some.inj (Option.some.inj sj)
    have es : a = s := Option.some.inj e1
    subst ev es
    exact .inr oj
  · rw [List.getElem?_set_ne (Ne.symm ne)] at sj
    exact .inl ⟨j, _, _, e1, sj, oj⟩
theorem Post.put {i : Nat} {s : Sl} (st : Sta g env σ H Mu) (np : i ∉ g.pins) (hs : SlOk g H Mu v s) (no : ∀ d, s ≠ .own d) (no2 : ∀ d, s ≠ .own2 d) : Post g env σ H Mu (env.set i (some s)) (σ.set i (some v)) H Mu := by
  have nt : ∀ p, ¬ OwnAt H s v p := fun p o => by
    cases s with
    | imm d => exact o
    | exc x => exact o
    | own d => exact no d rfl
    | own2 d => exact no2 d rfl
  exact ⟨st.put np hs fun p o => (nt p o).elim, .refl, fun p o => (o.of_put st.len).elim .inl fun z => (nt p z).elim⟩
theorem store_use {i : Nat} {s : Sl} {R : Unit → Env → Prop} {E : Exn → Env → Prop} (hw : wpR (store g.pins i s env) R E) : i ∉ g.pins ∧ i < env.length ∧ R () (env.set i (some s)) := by
  unfold store at hw
  cases hc : g.pins.contains i with
  | true => simp only [hc, if_true] at hw; exact hw.elim
  | false =>
    simp only [hc, Bool.false_eq_true, if_false] at hw
    split at hw
    · rename_i hl
      exact ⟨pins_of hc, hl, hw⟩
    · exact hw.elim
theorem s_tN {i : Nat} {x : Str} (k : Ctx X g W) (hi : X.N[i]? = some x) (hx : Loc X.env.scope x) (hf : X.fn x = true ∨ X.env.scope.names.lookup x = some .local) : PG X (.Name x pos) (tG g sg call (.tN i)) := by
  refine PG.imp (fun v σ H Q hq => ?_) (pg_name k.nd hi hx hf)
  obtain ⟨env, Mu, d, st, r, hw⟩ := hq
  obtain ⟨np, hl, hw⟩ := store_use hw
  exact hw _ (Post.put (s := .imm d) st np r (fun d e => nomatch e) (fun d e => nomatch e)) .set
theorem s_gnil : PGs X [] (tGs g sg call .nil) := by
  refine PGs.imp (fun v σ H Q hq => ?_) pgs_nil
  obtain ⟨env, Mu, ds, st, r, hw⟩ := hq
  cases r with
  | nil => exact ⟨rfl, hw σ (.refl st) .refl⟩
  | cons _ _ => exact hw.elim
theorem asg1 {e : Expr} (h : noStar e = true) (es : List Expr) (env : PySem.Env) : (assignEach (e :: es) env).map (·.2) = assign e env :: (assignEach es env).map (·.2) := by
  cases e <;> first | rfl | cases h
theorem asgs {es : List Expr} {env : PySem.Env} : es.all noStar = true → (assignEach es env).length = es.length ∧ (assignEach es env).findIdx? (·.1) = none := by
  induction es with
  | nil => intro _; exact ⟨rfl, rfl⟩
  | cons e es ih =>
    intro h
    rw [List.all_cons, Bool.and_eq_true] at h
    obtain ⟨i1, i2⟩ := ih h.2
    have e1 : assignEach (e :: es) env = (false, assign e env) :: assignEach es env := by
      have h1 := h.1
      cases e <;> first | rfl | cases h1
    rw [e1]
    refine ⟨by rw [List.length_cons, i1, List.length_cons], ?_⟩
    rw [List.findIdx?_cons, i2]
    rfl
theorem s_gcons (hs : noStar ea = true) (ha : PG X ea (tG g sg call a)) (hb : PGs X es (tGs g sg call as)) : PGs X (ea :: es) (tGs g sg call (.cons a as)) := by
  refine PGs.imp (fun v σ H Q hq => ?_) (pgs_cons ha hb (asg1 hs es X.env))
  obtain ⟨env, Mu, ds, st, r, hw⟩ := hq
  cases r with
  | nil => exact hw.elim
  | cons r1 r2 =>
    simp only [den, stores, wpR_bind] at hw
    refine ⟨_, _, rfl, env, Mu, _, st, r1, wpR_mono hw (fun _ env1 hw σ1 P1 e1 => ?_) fun _ _ z => z⟩
    refine ⟨env1, Mu, _, P1.st, r2, wpR_mono hw (fun _ env2 hw σ2 P2 e2 => ?_) fun _ _ z => z⟩
    exact hw σ2 (P1.trans st P2) (e1.trans e2)
theorem stores_len : ∀ {gs : List (D → M Unit)} {ds : List D} {env : Env} {R : Unit → Env → Prop} {E : Exn → Env → Prop}, (∀ x e, E x e → False) → wpR (stores gs ds env) R E → gs.length = ds.length
  | [], [], _, _, _, _, _ => rfl
  | [], _ :: _, _, _, _, _, h => h.elim
  | _ :: _, [], _, _, _, _, h => h.elim
  | q :: gs, d :: ds, env, R, E, hx, h => by
    simp only [stores, wpR_bind] at h
    cases e : q d env with
    | ok u e' =>
      rw [e] at h
      exact congrArg (· + 1) (stores_len hx h)
    | ex x e' =>
      rw [e] at h
      exact (hx _ _ h).elim
    | bad =>
      rw [e] at h
      exact h.elim
theorem s_tT {kk : Nat} (k : Ctx X g W) (hs : es.all noStar = true) (hn : (den sg call g.pins a).Gs.length = es.length) (ha : PGs X es (tGs g sg call a)) : PG X (.Tuple es kk pos) (tG g sg call (.tT a)) := by
  have o1 := pg_tup (k := kk) (pos := pos) (n := es.length) k.calm ha (asgs hs).1 (asgs hs).2
  have o2 := pg_unl (k := kk) (pos := pos) (n := es.length) k.calm ha (asgs hs).1 (asgs hs).2
  rw [k.K] at o1 o2
  have o : PG X (.Tuple es kk pos) (fun v σ H Q => gTup g.K es.length (tGs g sg call a) v σ H Q ∨ gUnl g.K es.length (tGs g sg call a) v σ H Q) := ⟨fun pins s σ H v u Q I r w => w.elim (o1.run pins s σ H v u Q I r) (o2.run pins s σ H v u Q I r)⟩
  refine PG.imp (fun v σ H Q hq => ?_) o
  obtain ⟨env, Mu, d, st, r, hw⟩ := hq
  cases r with
  | tup hs' hr =>
    simp only [den] at hw
    refine .inl ⟨_, _, rfl, Evl.ex_t (hid_le _ _) hs', ?_, env, Mu, _, st, hr, hw⟩
    have := stores_len (fun _ _ z => z) hw
    rw [hr.length, ← hn, this]
  | lst hs' hr =>
    simp only [den] at hw
    refine .inr ⟨_, _, rfl, (hs'.mono (hid_le _ _)).l, ?_, env, Mu, _, st, hr, hw⟩
    have := stores_len (fun _ _ z => z) hw
    rw [hr.length, ← hn, this]
  | _ => exact hw.elim

theorem kills_use {vs : List Nat} {R : Unit → Env → Prop} {E : Exn → Env → Prop} : ∀ {env : Env}, Sta g env σ H Mu → wpR (kills g.pins vs env) R E →
    ∃ env1, R () env1 ∧ Post g env σ H Mu env1 σ H Mu ∧ (∀ i ∈ vs, i ∉ g.pins ∧ ∀ s, env1[i]? ≠ some (some s)) ∧ (∀ (i : Nat) s, env1[i]? = some (some s) → env[i]? = some (some s)) := by
  induction vs with
  | nil => exact fun st hw => ⟨_, hw, .refl st, fun i hi => (nomatch hi), fun _ _ e => e⟩
  | cons j vs ih =>
    intro env st hw
    simp only [kills, wpR_bind] at hw
    cases hc : g.pins.contains j with
    | true => simp only [hc, if_true] at hw; exact hw.elim
    | false =>
      simp only [hc, Bool.false_eq_true, if_false] at hw
      have D := Post.drop st j
      obtain ⟨env1, r, P, hn, hk⟩ := ih D.st hw
      refine ⟨env1, r, D.trans st P, fun i hi => ?_, fun i s e => ?_⟩
      · rcases List.mem_cons.mp hi with rfl | hi
        · refine ⟨pins_of hc, fun s e => ?_⟩
          rcases getset (hk i s e) with ⟨_, _, e'⟩ | ⟨ne, _⟩
          · cases e'
          · exact ne rfl
        · exact hn i hi
      · rcases getset (hk i s e) with ⟨_, _, e'⟩ | ⟨_, e'⟩
        · cases e'
        · exact e'
theorem wipe_at {σ : L2.St} {i : Nat} : ∀ {vs : List Nat}, i ∈ vs → i < σ.length → (wipe σ vs)[i]? = some none
  | [], h, _ => nomatch h
  | j :: vs, h, hl => by
    show ((wipe σ vs).set j none)[i]? = _
    by_cases e : j = i
    · subst e
      exact List.getElem?_set_self (by rw [wipe_length]; exact hl)
    · rw [List.getElem?_set_ne e]
      exact wipe_at ((List.mem_cons.mp h).resolve_left fun z => e z.symm) hl
theorem wipe_eq {vs : List Nat} (h : Else vs σ σ1) : wipe σ1 vs = wipe σ vs := by
  refine List.ext_getElem? fun j => ?_
  by_cases hj : j ∈ vs
  · by_cases hl : j < σ.length
    · rw [wipe_at hj hl, wipe_at hj (by rw [h.1]; exact hl)]
    · rw [List.getElem?_eq_none (by rw [wipe_length, h.1]; omega), List.getElem?_eq_none (by rw [wipe_length]; omega)]
  · rw [wipe_out hj, wipe_out hj]
    exact h.2 j hj
theorem wipe_wipe {vs : List Nat} : wipe (wipe σ vs) vs = wipe σ vs := wipe_eq ⟨wipe_length _ _, fun j hj => wipe_out hj⟩
/-- slots of which nothing is known -/
def NoSl (vs : List Nat) (env : Env) : Prop := ∀ i ∈ vs, ∀ s, env[i]? ≠ some (some s)
theorem own_other {vs : List Nat} {p : Addr} (n : NoSl vs env) (h : ∀ j, j ∉ vs → σ1[j]? = σ[j]?) (o : Own H env σ p) : Own H env σ1 p := by
  obtain ⟨i, a, w, e, s, oi⟩ := o
  refine ⟨i, a, w, e, ?_, oi⟩
  rw [h i fun z => n i z _ e]
  exact s
theorem Sta.other {vs : List Nat} (st : Sta g env σ H Mu) (n : NoSl vs env) (np : ∀ i ∈ vs, i ∉ g.pins) (h : Else vs σ σ1) : Sta g env σ1 H Mu where
  sl := fun i s e => by
    rw [h.2 i fun z => n i z _ e]
    exact st.sl i s e
  inj := fun i j a b w w' p ei ej si sj oi oj => by
    rw [h.2 i fun z => n i z _ ei] at si
    rw [h.2 j fun z => n j z _ ej] at sj
    exact st.inj i j a b w w' p ei ej si sj oi oj
  mh := st.mh
  pin := fun k hk => by
    rw [h.2 k fun z => np k z hk]
    exact st.pin k hk
  len := by rw [h.1]; exact st.len
theorem Else.symm {vs : List Nat} (h : Else vs σ σ1) : Else vs σ1 σ := ⟨h.1.symm, fun j hj => (h.2 j hj).symm⟩
theorem Else.wipe {vs : List Nat} : Else vs σ (wipe σ vs) := ⟨wipe_length _ _, fun j hj => wipe_out hj⟩
/-- a step over other slots is one over these -/
theorem Post.other {vs : List Nat} (P : Post g env σ H Mu env1 σ1 H1 M1) (n : NoSl vs env) (n1 : NoSl vs env1) (np : ∀ i ∈ vs, i ∉ g.pins) {σ' σ1' : L2.St} (h : Else vs σ σ') (h1 : Else vs σ1 σ1') : Post g env σ' H Mu env1 σ1' H1 M1 where
  st := P.st.other n1 np h1
  fr := P.fr.more fun p o => own_other n h.2 o
  sub := fun p o => (P.sub p (own_other n1 h1.symm.2 o)).imp (fun z => own_other n h.2 z) id

/-- D is such a list -/
structure Making (g : Gx) (env : Env) (σ : L2.St) (H : Hp) (Mu : Addr → Prop) (L : Addr) (acc : List V) (ds : List D) : Prop where
  mu : Mu L
  no : ¬ Own H env σ L
  at_ : H L = some (.lst acc)
  rp : RpAll g.K (hid H Mu) acc ds
theorem Making.up {L : Addr} {acc : List V} {ds : List D} (m : Making g env σ H Mu L acc ds) (P : Post g env σ H Mu env1 σ1 H1 M1) : Making g env1 σ1 H1 M1 L acc ds := by
  obtain ⟨m1, e1⟩ := P.fr.b L m.mu m.no
  refine ⟨m1, fun o => (P.sub L o).elim m.no fun z => ?_, e1.trans m.at_, m.rp.up P.fr.grows⟩
  rw [m.at_] at z
  cases z
theorem Fr.wr {L : Addr} {o : HO} {O : Addr → Prop} (m : Mu L) (hl : H L ≠ none) (ol : O L) : Fr O H Mu (upd H L o) Mu where
  a := fun p h => .inl h
  b := fun p h no => ⟨h, upd_ne fun e => no (by rw [e]; exact ol)⟩
  c := fun p u e h => by rw [upd_ne fun z => h (by rw [z]; exact m)]; exact e
  e := fun p h => by
    by_cases z : p = L
    · rw [z, upd_same]; simp
    · rw [upd_ne z]; exact h
theorem Making.push {L : Addr} {acc : List V} {ds : List D} {y : V} {d : D} (m : Making g env σ H Mu L acc ds) (st : Sta g env σ H Mu) (r : Rp g.K (hid H Mu) y d) :
    Sta g env σ (upd H L (.lst (acc ++ [y]))) Mu ∧ Making g env σ (upd H L (.lst (acc ++ [y]))) Mu L (acc ++ [y]) (ds ++ [d]) := by
  have f : Fr (fun p => p = L) H Mu (upd H L (.lst (acc ++ [y]))) Mu := Fr.wr m.mu (by rw [m.at_]; simp) rfl
  exact ⟨st.up f (fun p o e => m.no (by rw [← e]; exact o)) fun p h => f.e p (st.mh p h), m.mu, fun o => m.no (st.own_up f (fun p o e => m.no (by rw [← e]; exact o)) o), upd_same, (m.rp.up f.grows).app (.cons (r.up f.grows) .nil)⟩
end
end Ev
end
section
namespace Ev
open PySem PySem.Spec PyProof.Rows L2

/-- no exception leaves -/
def W0 : WX := fun _ _ _ _ => False
section
variable {X : Cx} {g : Gx} {sg : Sig} {call : Call} {W : WX} {a b c as tg it cond body : C} {ea eb ec : Expr} {es : List Expr} {pos : Pos}
variable {env env1 env2 : Env} {σ σ1 σ2 : L2.St} {H H1 H2 : Hp} {Mu M1 M2 : Addr → Prop} {v w : V}

theorem wpR_noEx {α : Type} {m : M α} {e : Env} {R : α → Env → Prop} {E : Exn → Env → Prop} (h : wpR (noEx m e) R E) : wpR (m e) R (fun _ _ => False) := by
  unfold noEx at h
  cases q : m e with
  | ok a e' => rw [q] at h; exact h
  | ex x e' => rw [q] at h; exact h.elim
  | bad => rw [q] at h; exact h.elim
theorem wpR_some {α : Type} {r : Res α} {R : α → Env → Prop} (h : wpR r R (fun _ _ => False)) : ∃ a e, r = .ok a e ∧ R a e := by
  cases r with
  | ok a e => exact ⟨a, e, rfl, h⟩
  | ex x e => exact h.elim
  | bad => exact h.elim
theorem semI_of {R : List D → Env → Prop} {E : Exn → Env → Prop} {Q : It → Hp → Prop} (st : Sta g env σ H Mu) (hw : wpR ((den sg call g.pins a).I env) R E) (hx : ∀ x e, E x e → ExP g W env σ H Mu x e)
    (k : ∀ ds env' J H' Mu', Post g env σ H Mu env' σ H' Mu' → Yields g J ds (hid H' Mu') → R ds env' → Q J H') : semI g sg call W a σ H Q :=
  ⟨env, Mu, st, wpR_mono hw (fun t e r J H' Mu' P y => k t e J H' Mu' P y r) hx⟩
theorem Else.more {vs us : List Nat} (h : Else vs σ σ1) (s : ∀ j ∈ vs, j ∈ us) : Else us σ σ1 := ⟨h.1, fun j hj => h.2 j fun z => hj (s j z)⟩
/-- a new thing is written -/
theorem Post.wrNew {L : Addr} {o : HO} {ds : List D} {acc : List V} (st : Sta g env σ H Mu) (P : Post g env σ H Mu env1 σ1 H1 M1) (n : H L = none) (m : Making g env1 σ1 H1 M1 L acc ds) : Post g env σ H Mu env1 σ1 (upd H1 L o) M1 where
  st := P.st.up (O := fun p => p = L) (Fr.wr m.mu (by rw [m.at_]; simp) rfl) (fun p q e => m.no (by rw [← e]; exact q)) fun p h => (Fr.wr (O := fun p => p = L) m.mu (by rw [m.at_]; simp) rfl : Fr (fun p => p = L) H1 M1 (upd H1 L o) M1).e p (P.st.mh p h)
  fr := ⟨P.fr.a, fun p h no => by
      obtain ⟨h1, h2⟩ := P.fr.b p h no
      exact ⟨h1, (upd_ne fun e => st.mh p h (by rw [e]; exact n)).trans h2⟩, fun p u e h => by
      rw [upd_ne (ne_of_none e n)]
      exact P.fr.c p u e h, fun p h => by
      by_cases z : p = L
      · rw [z, upd_same]; simp
      · rw [upd_ne z]; exact P.fr.e p h⟩
  sub := fun p o => P.sub p (P.st.own_up (O := fun p => p = L) (Fr.wr m.mu (by rw [m.at_]; simp) rfl : Fr (fun p => p = L) H1 M1 (upd H1 L _) M1) (fun p q e => m.no (by rw [← e]; exact q)) o)
theorem lc_reads {vs : List Nat} {Q : VK} (hsub : ∀ j ∈ tgS tg, j ∈ vs) (hq : semE g sg call W (.lc vs tg it cond body) σ H Q) :
    tLc (semI g sg call W it) (tG g sg call tg) (semT g sg call W0 cond) (semP g sg call W0 body) vs σ H Q := by
  obtain ⟨env, Mu, st, hw⟩ := hq
  simp only [den, ofE, wpR_bind] at hw
  refine semI_of st hw (fun _ _ x => x) fun xs env1 J H1 M1 P1 yl hw => ?_
  intro L nL
  obtain ⟨env2, hw, PK, hn, _⟩ := kills_use P1.st hw
  have n2 : NoSl vs env2 := fun i hi => (hn i hi).2
  have np : ∀ i ∈ vs, i ∉ g.pins := fun i hi => (hn i hi).1
  have hw := wpR_noEx hw
  generalize hf : (fun x => (den sg call g.pins tg).G x >>= fun _ => (den sg call g.pins cond).P >>= fun c => boolOf c >>= fun r => (if r = true then (den sg call g.pins body).P >>= fun t => shareD g.pins t >>= fun d => M.pure (some d) else M.pure none) >>= fun y => kills g.pins vs >>= fun _ => M.pure y) = f at hw
  generalize hR : (fun ys e' => wpR ((if ys.length < lim then M.pure (TV.val (Sl.own (PyData.list ys))) else badM) e') (fun t env' => ∀ (v : V) (H' : Hp) (Mu' : Addr → Prop), Post g env σ H Mu env' σ H' Mu' → TVOk g env' σ H' Mu' v t → Org env σ H v t → Q v H') (ExP g W env σ H Mu)) = R at hw
  have PB : Post g env1 σ H1 M1 env2 σ H1 M1 := PK
  have stB : Sta g env2 (wipe σ vs) H1 M1 := PB.st.other n2 np .wipe
  have new0 : Post g env2 (wipe σ vs) H1 M1 env2 (wipe σ vs) (upd H1 L (.lst [])) (fun p => M1 p ∨ p = L) := (Post.refl stB).newM stB nL
  have mk0 : Making g env2 (wipe σ vs) (upd H1 L (.lst [])) (fun p => M1 p ∨ p = L) L [] [] :=
    ⟨.inr rfl, fun o => (stB.own_some (stB.own_new nL o)).1 nL, upd_same, .nil⟩
  refine ⟨fun i m H' => m = xs.length - i ∧ i ≤ xs.length ∧ ∃ env' Mu' acc ds, Post g env2 (wipe σ vs) H1 M1 env' (wipe σ vs) H' Mu' ∧ NoSl vs env' ∧ Making g env' (wipe σ vs) H' Mu' L acc ds ∧ wpR (lcLoop f (xs.drop i) env') (fun ys e => R (ds ++ ys) e) (fun _ _ => False),
    ⟨xs.length, by simp, Nat.zero_le _, env2, _, [], [], new0, n2, mk0, by simpa using hw⟩, ?_⟩
  rintro i m H' ⟨rfl, hi', env', Mu', acc, ds, P, nE, mk, hwL⟩
  by_cases hlt : i < xs.length
  · -- a turn
    refine .inr ?_
    have ed : xs.drop i = xs[i] :: xs.drop (i + 1) := List.drop_eq_getElem_cons hlt
    rw [ed] at hwL
    obtain ⟨go, item⟩ := yl.step H' Mu' (fun a o e => P.fr.grows a o e) i xs[i] (List.getElem?_eq_getElem hlt)
    refine ⟨go, fun H6 => ∃ env6 M6 acc6 ds6, Post g env2 (wipe σ vs) H1 M1 env6 (wipe σ vs) H6 M6 ∧ NoSl vs env6 ∧ Making g env6 (wipe σ vs) H6 M6 L acc6 ds6 ∧ wpR (lcLoop f (xs.drop (i + 1)) env6) (fun ys e => R (ds6 ++ ys) e) (fun _ _ => False),
      fun H6 h6 => ⟨_, by omega, rfl, hlt, h6⟩, fun x H5 hy => ?_⟩
    obtain ⟨h5, rx⟩ := item x H5 hy
    have rx := rx P.st.mh
    -- behind the item
    have step5 : Post g env' (wipe σ vs) H' Mu' env' (wipe σ vs) H5 Mu' := by
      rcases h5 with rfl | ⟨T, ys, nT, rfl⟩
      · exact .refl P.st
      · exact (Post.refl P.st).newI P.st nT
    have P5 := P.trans stB step5
    have mk5 := mk.up step5
    -- one turn of the evaluator
    simp only [lcLoop, wpR_bind] at hwL
    rw [← congrFun hf xs[i]] at hwL
    simp only [wpR_bind] at hwL
    refine ⟨env', Mu', xs[i], P5.st, rx, wpR_mono hwL (fun _ envA hwA σ2 PA eA => ?_) fun _ _ z => z⟩
    have eA' : Else vs (wipe σ vs) σ2 := eA.more hsub
    have ew : wipe σ2 vs = wipe σ vs := (wipe_eq eA').trans wipe_wipe
    refine ⟨ew, ?_⟩
    have eB : Else vs σ2 (wipe σ vs) := by rw [← ew]; exact .wipe
    have P6 := P5.trans stB PA
    have mk6 := mk5.up PA
    -- what is left of the turn
    have last : ∀ {env7 : Env} {H7 : Hp} {M7 : Addr → Prop} {acc7 : List V} {ds7 : List D} {y : Option D}, Post g env2 (wipe σ vs) H1 M1 env7 σ2 H7 M7 → Making g env7 σ2 H7 M7 L acc7 ds7 →
        wpR (kills g.pins vs env7) (fun _ e => wpR (lcLoop f (xs.drop (i + 1)) e) (fun ys e => wpR (M.pure (addO y ys) e) (fun ys e => R (ds ++ ys) e) (fun _ _ => False)) (fun _ _ => False)) (fun _ _ => False) →
        (∀ ys, ds ++ (addO y ys) = ds7 ++ ys) →
        ∃ env6 M6 acc6 ds6, Post g env2 (wipe σ vs) H1 M1 env6 (wipe σ vs) H7 M6 ∧ NoSl vs env6 ∧ Making g env6 (wipe σ vs) H7 M6 L acc6 ds6 ∧ wpR (lcLoop f (xs.drop (i + 1)) env6) (fun ys e => R (ds6 ++ ys) e) (fun _ _ => False) := by
      intro env7 H7 M7 acc7 ds7 y P7 mk7 hw7 hd
      obtain ⟨env8, hw8, P8, hn8, _⟩ := kills_use P7.st hw7
      have n8 : NoSl vs env8 := fun i hi => (hn8 i hi).2
      have P9 := P7.trans stB P8
      have mk8 := mk7.up P8
      have P10 : Post g env2 (wipe σ vs) H1 M1 env8 (wipe σ vs) H7 M7 := P9.other n2 n8 np .refl eB
      refine ⟨env8, M7, acc7, ds7, P10, n8, ⟨mk8.mu, fun o => mk8.no (own_other n8 eB.symm.2 o), mk8.at_, mk8.rp⟩, wpR_mono hw8 (fun ys e h => ?_) fun _ _ z => z⟩
      have h2 : R (ds ++ addO y ys) e := h
      rw [hd ys] at h2
      exact h2
    refine semT_of P6.st (wpR_bind.mpr hwA) (fun _ _ z => z.elim) fun r envB H8 M8 PB2 hwB => ?_
    have P8 := P6.trans stB PB2
    have mk8 := mk6.up PB2
    cases r with
    | false =>
      simp only [Bool.false_eq_true, if_false] at hwB ⊢
      exact last (y := none) P8 mk8 hwB fun ys => rfl
    | true =>
      simp only [if_true, wpR_bind] at hwB ⊢
      refine semP_of P8.st hwB (fun _ _ z => z.elim) fun t envC y H9 M9 PC o9 hwC => ?_
      have P9 := P8.trans stB PC
      have mk9 := mk8.up PC
      obtain ⟨d, envD, M10, hwD, PD, ry⟩ := shareD_ok P9.st o9 hwC
      have P10 := P9.trans stB PD
      have mk10 := mk9.up PD
      have hwD' : wpR (kills g.pins vs envD) (fun _ e => wpR (lcLoop f (xs.drop (i + 1)) e) (fun ys e => wpR (M.pure (addO (some d) ys) e) (fun ys e => R (ds ++ ys) e) (fun _ _ => False)) (fun _ _ => False)) (fun _ _ => False) := hwD
      obtain ⟨st11, mk11⟩ := mk10.push P10.st ry
      have P11 : Post g env2 (wipe σ vs) H1 M1 envD σ2 (upd H9 L (.lst (acc ++ [y]))) M10 := P10.wrNew stB nL mk10
      refine ⟨acc, mk10.at_, ?_, last (y := some d) P11 mk11 hwD' fun ys => by simp [addO]⟩
      -- its size
      obtain ⟨_, e1, _, h1⟩ := wpR_some hwD'
      obtain ⟨ys, e2, _, h2⟩ := wpR_some h1
      have h3 : R (ds ++ d :: ys) e2 := h2
      rw [← hR] at h3
      have h4 : (ds ++ d :: ys).length < lim := by
        by_cases q : (ds ++ d :: ys).length < lim
        · exact q
        · simp only [q, if_false] at h3
          exact h3.elim
      rw [mk10.rp.length]
      simp only [List.length_append, List.length_cons] at h4
      exact Nat.lt_of_lt_of_le (show ds.length < lim by omega) (lim_line (Nat.le_refl _))
  · -- the end
    have ei : i = xs.length := by omega
    subst ei
    refine .inl ⟨yl.stop H' Mu' (fun a o e => P.fr.grows a o e) _ (Nat.le_refl _), ?_⟩
    rw [List.drop_length] at hwL
    have hR' : R (ds ++ []) env' := hwL
    rw [List.append_nil, ← hR] at hR'
    split at hR'
    · have PZ : Post g env2 σ H1 M1 env' σ H' Mu' := P.other n2 nE np Else.wipe.symm Else.wipe.symm
      have PF := P1.trans st (PB.trans P1.st PZ)
      refine hR' (.ref L) H' Mu' PF ⟨⟨L, acc, rfl, mk.mu, mk.at_, mk.rp⟩, fun p e o => ?_⟩ fun p e => .inr ?_
      · cases e
        exact mk.no (own_other nE Else.wipe.2 o)
      · cases e
        exact Classical.byContradiction fun z => P1.fr.e _ z nL
    · exact hR'.elim
theorem s_lc {tgx itx elt : Expr} {ifs : List Expr} {scope : Scope} {own : List (Str × Nat)} {vs : List Nat} (k : Ctx X g W) (hv : own.map (·.2) = vs) (hi : PI X tgx itx (semI g sg call W it)) (ok : BlkOk X.N X.env.scope scope own)
    (hg : ∀ (s : Shared) (H : Hp) (C : Addr) (cl : List (Str × Addr)) (fp : List Addr), PG (X.blk s H scope (compEnvC scope cl C X.env) fp) tgx (tG g sg call tg))
    (ht : ∀ (s : Shared) (H : Hp) (C : Addr) (cl : List (Str × Addr)) (fp : List Addr), PTs (X.blk s H scope (compEnvC scope cl C X.env) fp) ifs (semT g sg call W0 cond))
    (he : ∀ (s : Shared) (H : Hp) (C : Addr) (cl : List (Str × Addr)) (fp : List Addr), PE (X.blk s H scope (compEnvC scope cl C X.env) fp) elt (semP g sg call W0 body))
    (hsub : ∀ j ∈ tgS tg, j ∈ vs) (hs : ∀ x, foldedSetIterable itx X.env x = pure x) : PE X (.ListComp elt [⟨tgx, itx, ifs, 0⟩] scope pos) (semE g sg call W (.lc vs tg it cond body)) := by
  refine PE.imp (fun σ H Q hq => ?_) (pe_lc k.calm k.nd hi ok hg ht he hs)
  rw [hv]
  exact lc_reads hsub hq
structure MakingT (g : Gx) (env : Env) (σ : L2.St) (H : Hp) (Mu : Addr → Prop) (L : Addr) (acc : List V) (dss : List (List D)) : Prop where
  mu : Mu L
  no : ¬ Own H env σ L
  at_ : H L = some (.lst acc)
  rows : Rows g.K H Mu acc dss
  nd : acc.Nodup
  nl : V.ref L ∉ acc
  nq : ∀ q, V.ref q ∈ acc → ¬ Own H env σ q
theorem MakingT.up {L : Addr} {acc : List V} {dss : List (List D)} (m : MakingT g env σ H Mu L acc dss) (P : Post g env σ H Mu env1 σ1 H1 M1) : MakingT g env1 σ1 H1 M1 L acc dss := by
  obtain ⟨m1, e1⟩ := P.fr.b L m.mu m.no
  refine ⟨m1, fun o => (P.sub L o).elim m.no fun z => ?_, e1.trans m.at_, m.rows.up P.fr m.nq, m.nd, m.nl, fun q hq o => (P.sub q o).elim (m.nq q hq) fun z => ?_⟩
  · rw [m.at_] at z
    cases z
  · obtain ⟨q', ws, e, _, hq'⟩ := m.rows.mem hq
    cases e
    rw [z] at hq'
    cases hq'
theorem rows_snoc {K : PySem.W.Frag} : ∀ {us : List V} {dss : List (List D)} {q : Addr} {ws : List V} {ds : List D}, Rows K H Mu us dss → Mu q → H q = some (.lst ws) → RpAll K (hid H Mu) ws ds → Rows K H Mu (us ++ [.ref q]) (dss ++ [ds])
  | _, _, _, _, _, .nil, m, h, r => .cons m h r .nil
  | _, _, _, _, _, .cons m1 h1 r1 t, m, h, r => .cons m1 h1 r1 (rows_snoc t m h r)
theorem rows_of_len {ys : List D} : ∀ {yss : List (List D)}, rowsOf ys = some yss → yss.length = ys.length := by
  induction ys with
  | nil =>
    intro yss h
    cases h
    rfl
  | cons y ys ih =>
    intro yss h
    cases y with
    | list ds =>
      obtain ⟨r, e1, e2⟩ := Option.map_eq_some_iff.mp (show (rowsOf ys).map (ds :: ·) = some yss from h)
      subst e2
      exact congrArg (· + 1) (ih e1)
    | _ => cases h
theorem rowsOf_app : ∀ (dss : List (List D)) {ys : List D}, rowsOf (dss.map .list ++ ys) = (rowsOf ys).map (dss ++ ·)
  | [], ys => by
    rw [List.map_nil, List.nil_append]
    cases rowsOf ys <;> rfl
  | ds :: dss, ys => by
    show (rowsOf (dss.map .list ++ ys)).map (ds :: ·) = _
    rw [rowsOf_app dss]
    cases rowsOf ys <;> rfl
theorem newL_ok {t : TV} {R : D → Env → Prop} {E : Exn → Env → Prop} (ok : TVOk g env σ H Mu v t) (w : wpR (newL t env) R E) : ∃ q ws ds, v = .ref q ∧ t = .val (.own (.list ds)) ∧ Mu q ∧ H q = some (.lst ws) ∧ RpAll g.K (hid H Mu) ws ds ∧ ¬ Own H env σ q ∧ R (.list ds) env := by
  cases t with
  | ref i => exact w.elim
  | val s =>
    cases s with
    | own d =>
      cases d with
      | list ds =>
        obtain ⟨h1, h2⟩ := ok
        obtain ⟨q, ws, ds', rfl, z, m, hq, r⟩ := h1.there
        cases z
        exact ⟨q, ws, ds, rfl, rfl, m, hq, r, h2 q rfl, w⟩
      | _ => exact w.elim
    | _ => exact w.elim
theorem Post.wrT {L : Addr} {o : HO} {dss : List (List D)} {acc : List V} (st : Sta g env σ H Mu) (P : Post g env σ H Mu env1 σ1 H1 M1) (n : H L = none) (mu : M1 L) (no : ¬ Own H1 env1 σ1 L) (at_ : H1 L = some o) {o2 : HO} : Post g env σ H Mu env1 σ1 (upd H1 L o2) M1 where
  st := P.st.up (O := fun p => p = L) (Fr.wr mu (by rw [at_]; simp) rfl) (fun p q e => no (by rw [← e]; exact q)) fun p h => (Fr.wr (O := fun p => p = L) mu (by rw [at_]; simp) rfl : Fr (fun p => p = L) H1 M1 (upd H1 L o2) M1).e p (P.st.mh p h)
  fr := ⟨P.fr.a, fun p h no => by
      obtain ⟨h1, h2⟩ := P.fr.b p h no
      exact ⟨h1, (upd_ne fun e => st.mh p h (by rw [e]; exact n)).trans h2⟩, fun p u e h => by
      rw [upd_ne (ne_of_none e n)]
      exact P.fr.c p u e h, fun p h => by
      by_cases z : p = L
      · rw [z, upd_same]; simp
      · rw [upd_ne z]; exact P.fr.e p h⟩
  sub := fun p o => P.sub p (P.st.own_up (O := fun p => p = L) (Fr.wr mu (by rw [at_]; simp) rfl : Fr (fun p => p = L) H1 M1 (upd H1 L o2) M1) (fun p q e => no (by rw [← e]; exact q)) o)
theorem tbl_reads {vs : List Nat} {Q : VK} {RR : List (List D) → Env → Prop} {E : Exn → Env → Prop} (hsub : ∀ j ∈ tgS tg, j ∈ vs) (st : Sta g env σ H Mu)
    (hw : wpR (tblM g.pins vs (den sg call g.pins it).I (den sg call g.pins tg).G (do let c ← (den sg call g.pins cond).P; boolOf c) (den sg call g.pins body).E env) RR E) (hx : ∀ x e, E x e → ExP g W env σ H Mu x e)
    (k : ∀ yss env' L H' Mu', Post g env σ H Mu env' σ H' Mu' → SlOk g H' Mu' (.ref L) (.own2 yss) → (∀ p, OwnAt H' (.own2 yss) (.ref L) p → ¬ Own H' env' σ p ∧ (Own H env σ p ∨ H p = none)) → RR yss env' → Q (.ref L) H') :
    tLc (semI g sg call W it) (tG g sg call tg) (semT g sg call W0 cond) (semE g sg call W0 body) vs σ H Q := by
  unfold tblM at hw
  simp only [wpR_bind] at hw
  refine semI_of st hw hx fun xs env1 J H1 M1 P1 yl hw => ?_
  intro L nL
  obtain ⟨env2, hw, PK, hn, _⟩ := kills_use P1.st hw
  have n2 : NoSl vs env2 := fun i hi => (hn i hi).2
  have np : ∀ i ∈ vs, i ∉ g.pins := fun i hi => (hn i hi).1
  have hw := wpR_noEx hw
  generalize hf : (fun x => (den sg call g.pins tg).G x >>= fun _ => ((den sg call g.pins cond).P >>= fun c => boolOf c) >>= fun r => (if r = true then (den sg call g.pins body).E >>= fun t => newL t >>= fun d => M.pure (some d) else M.pure none) >>= fun y => kills g.pins vs >>= fun _ => M.pure y) = f at hw
  generalize hR : (fun (ys : List D) (e' : Env) => wpR (liftO (rowsOf ys) e') (fun yss e => wpR ((if ys.length < lim then M.pure yss else badM) e) RR E) E) = R at hw
  have PB : Post g env1 σ H1 M1 env2 σ H1 M1 := PK
  have stB : Sta g env2 (wipe σ vs) H1 M1 := PB.st.other n2 np .wipe
  have new0 : Post g env2 (wipe σ vs) H1 M1 env2 (wipe σ vs) (upd H1 L (.lst [])) (fun p => M1 p ∨ p = L) := (Post.refl stB).newM stB nL
  have mk0 : MakingT g env2 (wipe σ vs) (upd H1 L (.lst [])) (fun p => M1 p ∨ p = L) L [] [] :=
    ⟨.inr rfl, fun o => (stB.own_some (stB.own_new nL o)).1 nL, upd_same, .nil, .nil, (fun z => nomatch z), fun _ z => nomatch z⟩
  -- what the rows are, from the entry
  let Src : List V → Prop := fun acc => ∀ q, V.ref q ∈ acc → Own H1 env2 (wipe σ vs) q ∨ H1 q = none
  refine ⟨fun i m H' => m = xs.length - i ∧ i ≤ xs.length ∧ ∃ env' Mu' acc dss, Post g env2 (wipe σ vs) H1 M1 env' (wipe σ vs) H' Mu' ∧ NoSl vs env' ∧ MakingT g env' (wipe σ vs) H' Mu' L acc dss ∧ Src acc ∧ wpR (lcLoop f (xs.drop i) env') (fun ys e => R (dss.map .list ++ ys) e) (fun _ _ => False),
    ⟨xs.length, by simp, Nat.zero_le _, env2, _, [], [], new0, n2, mk0, fun _ z => (nomatch z), by simpa using hw⟩, ?_⟩
  rintro i m H' ⟨rfl, hi', env', Mu', acc, dss, P, nE, mk, src, hwL⟩
  by_cases hlt : i < xs.length
  · refine .inr ?_
    have ed : xs.drop i = xs[i] :: xs.drop (i + 1) := List.drop_eq_getElem_cons hlt
    rw [ed] at hwL
    obtain ⟨go, item⟩ := yl.step H' Mu' (fun a o e => P.fr.grows a o e) i xs[i] (List.getElem?_eq_getElem hlt)
    refine ⟨go, fun H6 => ∃ env6 M6 acc6 dss6, Post g env2 (wipe σ vs) H1 M1 env6 (wipe σ vs) H6 M6 ∧ NoSl vs env6 ∧ MakingT g env6 (wipe σ vs) H6 M6 L acc6 dss6 ∧ Src acc6 ∧ wpR (lcLoop f (xs.drop (i + 1)) env6) (fun ys e => R (dss6.map .list ++ ys) e) (fun _ _ => False),
      fun H6 h6 => ⟨_, by omega, rfl, hlt, h6⟩, fun x H5 hy => ?_⟩
    obtain ⟨h5, rx⟩ := item x H5 hy
    have rx := rx P.st.mh
    have step5 : Post g env' (wipe σ vs) H' Mu' env' (wipe σ vs) H5 Mu' := by
      rcases h5 with rfl | ⟨T, ys, nT, rfl⟩
      · exact .refl P.st
      · exact (Post.refl P.st).newI P.st nT
    have P5 := P.trans stB step5
    have mk5 := mk.up step5
    simp only [lcLoop, wpR_bind] at hwL
    rw [← congrFun hf xs[i]] at hwL
    simp only [wpR_bind] at hwL
    refine ⟨env', Mu', xs[i], P5.st, rx, wpR_mono hwL (fun _ envA hwA σ2 PA eA => ?_) fun _ _ z => z⟩
    have eA' : Else vs (wipe σ vs) σ2 := eA.more hsub
    have ew : wipe σ2 vs = wipe σ vs := (wipe_eq eA').trans wipe_wipe
    refine ⟨ew, ?_⟩
    have eB : Else vs σ2 (wipe σ vs) := by rw [← ew]; exact .wipe
    have P6 := P5.trans stB PA
    have mk6 := mk5.up PA
    have last : ∀ {env7 : Env} {H7 : Hp} {M7 : Addr → Prop} {acc7 : List V} {dss7 : List (List D)} {y : Option D}, Post g env2 (wipe σ vs) H1 M1 env7 σ2 H7 M7 → MakingT g env7 σ2 H7 M7 L acc7 dss7 → Src acc7 →
        wpR (kills g.pins vs env7) (fun _ e => wpR (lcLoop f (xs.drop (i + 1)) e) (fun ys e => wpR (M.pure (addO y ys) e) (fun ys e => R (dss.map .list ++ ys) e) (fun _ _ => False)) (fun _ _ => False)) (fun _ _ => False) →
        (∀ ys, dss.map .list ++ (addO y ys) = dss7.map .list ++ ys) →
        ∃ env6 M6 acc6 dss6, Post g env2 (wipe σ vs) H1 M1 env6 (wipe σ vs) H7 M6 ∧ NoSl vs env6 ∧ MakingT g env6 (wipe σ vs) H7 M6 L acc6 dss6 ∧ Src acc6 ∧ wpR (lcLoop f (xs.drop (i + 1)) env6) (fun ys e => R (dss6.map .list ++ ys) e) (fun _ _ => False) := by
      intro env7 H7 M7 acc7 dss7 y P7 mk7 src7 hw7 hd
      obtain ⟨env8, hw8, P8, hn8, _⟩ := kills_use P7.st hw7
      have n8 : NoSl vs env8 := fun i hi => (hn8 i hi).2
      have P9 := P7.trans stB P8
      have mk8 := mk7.up P8
      have P10 : Post g env2 (wipe σ vs) H1 M1 env8 (wipe σ vs) H7 M7 := P9.other n2 n8 np .refl eB
      refine ⟨env8, M7, acc7, dss7, P10, n8, ⟨mk8.mu, fun o => mk8.no (own_other n8 eB.symm.2 o), mk8.at_, mk8.rows, mk8.nd, mk8.nl, fun q hq o => mk8.nq q hq (own_other n8 eB.symm.2 o)⟩, src7, wpR_mono hw8 (fun ys e h => ?_) fun _ _ z => z⟩
      have h2 : R (dss.map .list ++ addO y ys) e := h
      rw [hd ys] at h2
      exact h2
    refine semT_of P6.st (wpR_bind.mpr hwA) (fun _ _ z => z.elim) fun r envB H8 M8 PB2 hwB => ?_
    have P8 := P6.trans stB PB2
    have mk8 := mk6.up PB2
    cases r with
    | false =>
      simp only [Bool.false_eq_true, if_false] at hwB ⊢
      exact last (y := none) P8 mk8 src hwB fun ys => rfl
    | true =>
      simp only [if_true, wpR_bind] at hwB ⊢
      refine ⟨envB, M8, P8.st, wpR_mono hwB (fun t envC hwC y H9 M9 PC ok og => ?_) fun _ _ z => z.elim⟩
      obtain ⟨q, ws, ds, rfl, rfl, mq, hq, rq, nq, hwD⟩ := newL_ok ok hwC
      have P9 := P8.trans stB PC
      have mk9 := mk8.up PC
      have og' : Own H8 envB σ2 q ∨ H8 q = none := og q rfl
      have fresh : V.ref q ∉ acc := fun z => og'.elim (mk8.nq q z) fun zn => by
        obtain ⟨q', ws', e, _, hq'⟩ := mk8.rows.mem z
        cases e
        rw [zn] at hq'
        cases hq'
      have neL : q ≠ L := fun z => og'.elim (fun o => mk8.no (by rw [← z]; exact o)) fun zn => by
        rw [z, mk8.at_] at zn
        cases zn
      have hwD' : wpR (kills g.pins vs envC) (fun _ e => wpR (lcLoop f (xs.drop (i + 1)) e) (fun ys e => wpR (M.pure (addO (some (.list ds)) ys) e) (fun ys e => R (dss.map .list ++ ys) e) (fun _ _ => False)) (fun _ _ => False)) (fun _ _ => False) := hwD
      have fL : Fr (fun p => p = L) H9 M9 (upd H9 L (.lst (acc ++ [.ref q]))) M9 := Fr.wr mk9.mu (by rw [mk9.at_]; simp) rfl
      have noL : ∀ p, Own H9 envC σ2 p → ¬ p = L := fun p o e => mk9.no (by rw [← e]; exact o)
      have P11 : Post g env2 (wipe σ vs) H1 M1 envC σ2 (upd H9 L (.lst (acc ++ [.ref q]))) M9 := Post.wrT (dss := []) (acc := []) stB P9 nL mk9.mu mk9.no mk9.at_
      have mk11 : MakingT g envC σ2 (upd H9 L (.lst (acc ++ [.ref q]))) M9 L (acc ++ [.ref q]) (dss ++ [ds]) := by
        refine ⟨mk9.mu, fun o => mk9.no (P9.st.own_up fL noL o), upd_same, rows_snoc (mk9.rows.up fL fun p hp z => mk9.nl (by rw [← z]; exact hp)) mq ?_ (rq.up fL.grows), ?_, ?_, fun p hp o => ?_⟩
        · rw [upd_ne neL]
          exact hq
        · refine List.nodup_append.mpr ⟨mk9.nd, by simp, fun a ha b hb e => ?_⟩
          rw [List.mem_singleton] at hb
          rw [e, hb] at ha
          exact fresh ha
        · intro z
          rcases List.mem_append.mp z with z | z
          · exact mk9.nl z
          · rw [List.mem_singleton] at z
            cases z
            exact neL rfl
        · have o := P9.st.own_up fL noL o
          rcases List.mem_append.mp hp with z | z
          · exact mk9.nq p z o
          · rw [List.mem_singleton] at z
            cases z
            exact nq o
      refine ⟨acc, mk9.at_, ?_, last (y := some (.list ds)) P11 mk11 (fun p hp => ?_) hwD' fun ys => by simp [addO]⟩
      · obtain ⟨_, e1, _, h1⟩ := wpR_some hwD'
        obtain ⟨ys, e2, _, h2⟩ := wpR_some h1
        have h3 : R (dss.map .list ++ .list ds :: ys) e2 := h2
        rw [← hR] at h3
        obtain ⟨yss, ey, h3⟩ := wpR_lift.mp h3
        have h4 : (dss.map PyData.list ++ .list ds :: ys).length < lim := by
          by_cases q : (dss.map PyData.list ++ .list ds :: ys).length < lim
          · exact q
          · simp only [q, if_false] at h3
            exact h3.elim
        rw [mk9.rows.length]
        simp only [List.length_append, List.length_cons, List.length_map] at h4
        exact Nat.lt_of_lt_of_le (show dss.length < lim by omega) (lim_line (Nat.le_refl _))
      · rcases List.mem_append.mp hp with z | z
        · exact src p z
        · rw [List.mem_singleton] at z
          cases z
          rcases og' with o | zn
          · exact P8.sub q o
          · exact .inr (Classical.byContradiction fun n => P8.fr.e q n zn)
  · have ei : i = xs.length := by omega
    subst ei
    refine .inl ⟨yl.stop H' Mu' (fun a o e => P.fr.grows a o e) _ (Nat.le_refl _), ?_⟩
    rw [List.drop_length] at hwL
    have hR' : R (dss.map .list ++ []) env' := hwL
    rw [List.append_nil, ← hR] at hR'
    obtain ⟨yss, ey, hR'⟩ := wpR_lift.mp hR'
    have ez : yss = dss := by
      have := rowsOf_app dss (ys := [])
      rw [List.append_nil, ey] at this
      have e2 : some yss = some (dss ++ []) := this
      rw [List.append_nil] at e2
      exact Option.some.inj e2
    subst ez
    split at hR'
    · have PZ : Post g env2 σ H1 M1 env' σ H' Mu' := P.other n2 nE np Else.wipe.symm Else.wipe.symm
      have PF := P1.trans st (PB.trans P1.st PZ)
      refine k _ env' L H' Mu' PF ⟨L, acc, rfl, mk.mu, mk.at_, mk.nd, mk.nl, mk.rows⟩ (fun p op => ?_) hR'
      -- from the entry
      have back : Own H1 env2 (wipe σ vs) p ∨ H1 p = none → Own H env σ p ∨ H p = none := fun z => by
        rcases z with z | z
        · have z2 : Own H1 env2 σ p := own_other n2 Else.wipe.symm.2 z
          exact (PB.sub p z2).elim (P1.sub p) fun zn => .inr (Classical.byContradiction fun n => P1.fr.e p n zn)
        · exact .inr (Classical.byContradiction fun n => P1.fr.e p n z)
      rcases op with e | ⟨r, us, e, hr, hp⟩
      · cases e
        exact ⟨fun o => mk.no (own_other nE Else.wipe.2 o), back (.inr nL)⟩
      · cases e
        rw [mk.at_] at hr
        cases hr
        exact ⟨fun o => mk.nq p hp (own_other nE Else.wipe.2 o), back (src p hp)⟩
    · exact hR'.elim
end
end Ev
end
section
namespace Ev
open PySem PySem.Spec PyProof.Rows L2

/-- what is wanted behind a statement -/
def FlP (g : Gx) (D : Ends) (env : Env) (σ : L2.St) (H : Hp) (Mu : Addr → Prop) : Fl → Env → Prop
  | .nx, env' => ∀ σ' H' Mu', Post g env σ H Mu env' σ' H' Mu' → D.nx σ' H'
  | .bk, env' => ∀ σ' H' Mu', Post g env σ H Mu env' σ' H' Mu' → D.bk σ' H'
  | .ct, env' => ∀ σ' H' Mu', Post g env σ H Mu env' σ' H' Mu' → D.ct σ' H'
  | .rt s, env' => ∀ v σ' H' Mu', Post g env σ H Mu env' σ' H' Mu' → TVOk g env' σ' H' Mu' v (.val s) → Org env σ H v (.val s) → D.rt v H'
def semS (g : Gx) (sg : Sig) (call : Call) (W : WX) (c : C) : TS := fun D σ H => ∃ env Mu, Sta g env σ H Mu ∧ wpR ((den sg call g.pins c).S env) (FlP g D env σ H Mu) (ExP g W env σ H Mu)
section
variable {X : Cx} {g : Gx} {sg : Sig} {call : Call} {W : WX} {a b c as tg it cond body s r : C} {ea eb ec : Expr} {es : List Expr} {pos p' : Pos} {ss : Stmt} {rest ba bb : List Stmt}
variable {env env1 env2 : Env} {σ σ1 σ2 : L2.St} {H H1 H2 : Hp} {Mu M1 M2 : Addr → Prop} {v w : V} {De : Ends}

theorem Org.from {t : TV} (P : Post g env σ H Mu env1 σ1 H1 M1) (o : Org env1 σ1 H1 v t) : Org env σ H v t := by
  cases t with
  | ref i => exact trivial
  | val s =>
    cases s with
    | imm d => exact trivial
    | exc x => exact trivial
    | own2 d => exact trivial
    | own d => exact fun p e => (o p e).elim (P.sub p) fun z => .inr (Classical.byContradiction fun n => P.fr.e p n z)
theorem FlP.step (st : Sta g env σ H Mu) (P : Post g env σ H Mu env1 σ1 H1 M1) : ∀ f e, FlP g De env σ H Mu f e → FlP g De env1 σ1 H1 M1 f e := by
  intro f e h
  cases f with
  | nx => exact fun σ' H' Mu' q => h σ' H' Mu' (P.trans st q)
  | bk => exact fun σ' H' Mu' q => h σ' H' Mu' (P.trans st q)
  | ct => exact fun σ' H' Mu' q => h σ' H' Mu' (P.trans st q)
  | rt s => exact fun v σ' H' Mu' q ok og => h v σ' H' Mu' (P.trans st q) ok (og.from P)
theorem semS_of {R : Fl → Env → Prop} {E : Exn → Env → Prop} (st : Sta g env σ H Mu) (hw : wpR ((den sg call g.pins a).S env) R E) (hx : ∀ x e, E x e → ExP g W env σ H Mu x e) (k : ∀ f e, R f e → FlP g De env σ H Mu f e) : semS g sg call W a De σ H :=
  ⟨env, Mu, st, wpR_mono hw k hx⟩
theorem s_sNil : PSs X [] (semS g sg call W .sNil) := by
  refine PSs.imp (fun D σ H hq => ?_) pss_nil
  obtain ⟨env, Mu, st, hw⟩ := hq
  exact hw σ H Mu (.refl st)
theorem s_sCons (h1 : PS X ss (semS g sg call W s)) (h2 : PSs X rest (semS g sg call W r)) : PSs X (ss :: rest) (semS g sg call W (.sCons s r)) := by
  refine PSs.imp (fun D σ H hq => ?_) (pss_cons h1 h2)
  obtain ⟨env, Mu, st, hw⟩ := hq
  simp only [den, wpR_bind] at hw
  refine semS_of st hw (fun _ _ x => x) fun f e hw => ?_
  cases f with
  | nx => exact fun σ' H' Mu' P => ⟨e, Mu', P.st, wpR_mono hw (FlP.step st P) (ExP.step st P)⟩
  | bk => exact hw
  | ct => exact hw
  | rt s => exact hw
theorem s_kil {is : List Nat} (h2 : PSs X rest (semS g sg call W r)) : PSs X rest (semS g sg call W (.sCons (.kil is) r)) := by
  refine PSs.imp (fun D σ H hq => ?_) h2
  obtain ⟨env, Mu, st, hw⟩ := hq
  simp only [den, wpR_bind] at hw
  obtain ⟨env1, hw, P, _⟩ := kills_use st hw
  have hw : wpR ((den sg call g.pins r).S env1) (FlP g D env σ H Mu) (ExP g W env σ H Mu) := hw
  exact semS_of P.st hw (ExP.step st P) (FlP.step st P)

/-- a value comes to a slot -/
theorem toStore_ok {t : TV} {i : Nat} {R : Unit → Env → Prop} {E : Exn → Env → Prop} (st : Sta g env σ H Mu) (P : Post g env σ H Mu env1 σ1 H1 M1) (ok : TVOk g env1 σ1 H1 M1 v t) (og : Org env σ H v t) (hw : wpR ((toStore g.pins t >>= store g.pins i) env1) R E) :
    ∃ env2 M2, R () env2 ∧ Post g env σ H Mu env2 (σ1.set i (some v)) H1 M2 := by
  have hw := wpR_bind.mp hw
  cases t with
  | ref j =>
    obtain ⟨sl, envB, M2, hw, P2, hs, no⟩ := share_ok (t := .ref j) P.st ok hw
    obtain ⟨np, hl, hw⟩ := store_use hw
    exact ⟨_, M2, hw, P.trans st (P2.trans P.st (Post.put P2.st np hs no.1 no.2))⟩
  | val s =>
    obtain ⟨np, hl, hw⟩ := store_use (s := s) (hw : wpR (store g.pins i s env1) R E)
    have hs : SlOk g H1 M1 v s := by
      cases s with
      | own d => exact ok.1
      | imm d => exact ok
      | exc x => exact ok
      | own2 d => exact ok.elim
    have no : ∀ p, OwnAt H1 s v p → ¬ Own H1 env1 σ1 p := fun p op => by
      cases s with
      | own d => exact ok.2 p op
      | imm d => exact op.elim
      | exc x => exact op.elim
      | own2 d => exact ok.elim
    refine ⟨_, M1, hw, ⟨P.st.put np hs no, P.fr, fun p o => ?_⟩⟩
    rcases o.of_put P.st.len with o | op
    · exact P.sub p o
    · cases s with
      | own d => exact og p op
      | imm d => exact op.elim
      | exc x => exact op.elim
      | own2 d => exact ok.elim
theorem s_set {i : Nat} {x : Str} (k : Ctx X g W) (hi : X.N[i]? = some x) (hx : Loc X.env.scope x) (hf : X.fn x = true ∨ X.env.scope.names.lookup x = some .local) (hsw : swapsWith ea (some (.Name x p')) pos.line X.env = pure false) (he : PE X ea (semE g sg call W a)) :
    PS X (.Assign [.Name x p'] ea pos) (semS g sg call W (.set i a)) := by
  refine PS.imp (fun D σ H hq => ?_) (ps_set k.nd hi hx he hsw hf)
  obtain ⟨env, Mu, st, hw⟩ := hq
  simp only [den, wpR_bind] at hw
  refine semE_of st hw (fun _ _ x => x) fun t env1 v H1 M1 P ok og hw => ?_
  obtain ⟨env2, M2, hw, P2⟩ := toStore_ok st P ok og (wpR_bind.mpr hw)
  exact hw _ H1 M2 P2
theorem s_setLc {i : Nat} {x : Str} {tgx itx elt : Expr} {ifs : List Expr} {scope : Scope} {own : List (Str × Nat)} {vs : List Nat} (k : Ctx X g W) (hi : X.N[i]? = some x) (hx : X.env.scope.names.lookup x = some .local)
    (hsw : swapsWith (.ListComp elt [⟨tgx, itx, ifs, 0⟩] scope pos) (some (.Name x p')) p'.line X.env = pure true) {sp : Pos} (hsp : sp.line = p'.line)
    (hv : own.map (·.2) = vs) (hit : PI X tgx itx (semI g sg call W it)) (ok : BlkOk X.N X.env.scope scope own)
    (hg : ∀ (s : Shared) (H : Hp) (C : Addr) (cl : List (Str × Addr)) (fp : List Addr), PG (X.blk s H scope (compEnvC scope cl C X.env) fp) tgx (tG g sg call tg))
    (ht : ∀ (s : Shared) (H : Hp) (C : Addr) (cl : List (Str × Addr)) (fp : List Addr), PTs (X.blk s H scope (compEnvC scope cl C X.env) fp) ifs (semT g sg call W0 cond))
    (he : ∀ (s : Shared) (H : Hp) (C : Addr) (cl : List (Str × Addr)) (fp : List Addr), PE (X.blk s H scope (compEnvC scope cl C X.env) fp) elt (semP g sg call W0 body))
    (hsub : ∀ j ∈ tgS tg, j ∈ vs) (hs : ∀ x, foldedSetIterable itx X.env x = pure x) : PS X (.Assign [.Name x p'] (.ListComp elt [⟨tgx, itx, ifs, 0⟩] scope pos) sp) (semS g sg call W (.set i (.lc vs tg it cond body))) := by
  refine PS.imp (fun D σ H hq => ?_) (ps_setLc k.calm k.nd hi hx (by rw [hsp]; exact hsw) hit ok hg ht he hs)
  rw [hv]
  obtain ⟨env, Mu, st, hw⟩ := hq
  have hw : wpR (((den sg call g.pins (.lc vs tg it cond body)).E >>= fun t => toStore g.pins t >>= fun s => store g.pins i s >>= fun _ => M.pure .nx) env) (FlP g D env σ H Mu) (ExP g W env σ H Mu) := hw
  simp only [wpR_bind] at hw
  refine lc_reads hsub (semE_of st hw (fun _ _ x => x) fun t env1 v H1 M1 P ok og hw => ?_)
  obtain ⟨env2, M2, hw, P2⟩ := toStore_ok st P ok og (wpR_bind.mpr hw)
  exact hw _ H1 M2 P2
theorem tbl_set {i : Nat} {vs : List Nat} {D : Ends} (hsub : ∀ j ∈ tgS tg, j ∈ vs) (hq : semS g sg call W (.lc2 i vs tg it cond body) D σ H) :
    tLc (semI g sg call W it) (tG g sg call tg) (semT g sg call W0 cond) (semE g sg call W0 body) vs σ H fun v H' => D.nx (σ.set i (some v)) H' := by
  obtain ⟨env, Mu, st, hw⟩ := hq
  simp only [den] at hw
  refine tbl_reads (sg := sg) (call := call) hsub st (wpR_bind.mp hw) (fun _ _ x => x) fun yss env' L H' Mu' P hs ho hw => ?_
  obtain ⟨np, hl, hw⟩ := store_use (wpR_bind.mp hw)
  exact hw _ H' Mu' ⟨P.st.put np hs fun p o => (ho p o).1, P.fr, fun p o => (o.of_put P.st.len).elim (P.sub p) fun z => (ho p z).2⟩
theorem s_lc2 {i : Nat} {x : Str} {tgx itx elt : Expr} {ifs : List Expr} {scope : Scope} {own : List (Str × Nat)} {vs : List Nat} {sp : Pos} (k : Ctx X g W) (hi : X.N[i]? = some x) (hx : Loc X.env.scope x) (hf : X.fn x = true ∨ X.env.scope.names.lookup x = some .local)
    (hsw : swapsWith (.ListComp elt [⟨tgx, itx, ifs, 0⟩] scope pos) (some (.Name x p')) sp.line X.env = pure false)
    (hv : own.map (·.2) = vs) (hit : PI X tgx itx (semI g sg call W it)) (ok : BlkOk X.N X.env.scope scope own)
    (hg : ∀ (s : Shared) (H : Hp) (C : Addr) (cl : List (Str × Addr)) (fp : List Addr), PG (X.blk s H scope (compEnvC scope cl C X.env) fp) tgx (tG g sg call tg))
    (ht : ∀ (s : Shared) (H : Hp) (C : Addr) (cl : List (Str × Addr)) (fp : List Addr), PTs (X.blk s H scope (compEnvC scope cl C X.env) fp) ifs (semT g sg call W0 cond))
    (he : ∀ (s : Shared) (H : Hp) (C : Addr) (cl : List (Str × Addr)) (fp : List Addr), PE (X.blk s H scope (compEnvC scope cl C X.env) fp) elt (semE g sg call W0 body))
    (hsub : ∀ j ∈ tgS tg, j ∈ vs) (hs : ∀ x, foldedSetIterable itx X.env x = pure x) : PS X (.Assign [.Name x p'] (.ListComp elt [⟨tgx, itx, ifs, 0⟩] scope pos) sp) (semS g sg call W (.lc2 i vs tg it cond body)) := by
  refine PS.imp (fun D σ H hq => ?_) (ps_set k.nd hi hx (pe_lc k.calm k.nd hit ok hg ht he hs) hsw hf)
  rw [hv]
  exact tbl_set hsub hq
theorem s_lc2Lc {i : Nat} {x : Str} {tgx itx elt : Expr} {ifs : List Expr} {scope : Scope} {own : List (Str × Nat)} {vs : List Nat} (k : Ctx X g W) (hi : X.N[i]? = some x) (hx : X.env.scope.names.lookup x = some .local)
    (hsw : swapsWith (.ListComp elt [⟨tgx, itx, ifs, 0⟩] scope pos) (some (.Name x p')) p'.line X.env = pure true) {sp : Pos} (hsp : sp.line = p'.line)
    (hv : own.map (·.2) = vs) (hit : PI X tgx itx (semI g sg call W it)) (ok : BlkOk X.N X.env.scope scope own)
    (hg : ∀ (s : Shared) (H : Hp) (C : Addr) (cl : List (Str × Addr)) (fp : List Addr), PG (X.blk s H scope (compEnvC scope cl C X.env) fp) tgx (tG g sg call tg))
    (ht : ∀ (s : Shared) (H : Hp) (C : Addr) (cl : List (Str × Addr)) (fp : List Addr), PTs (X.blk s H scope (compEnvC scope cl C X.env) fp) ifs (semT g sg call W0 cond))
    (he : ∀ (s : Shared) (H : Hp) (C : Addr) (cl : List (Str × Addr)) (fp : List Addr), PE (X.blk s H scope (compEnvC scope cl C X.env) fp) elt (semE g sg call W0 body))
    (hsub : ∀ j ∈ tgS tg, j ∈ vs) (hs : ∀ x, foldedSetIterable itx X.env x = pure x) : PS X (.Assign [.Name x p'] (.ListComp elt [⟨tgx, itx, ifs, 0⟩] scope pos) sp) (semS g sg call W (.lc2 i vs tg it cond body)) := by
  refine PS.imp (fun D σ H hq => ?_) (ps_setLc k.calm k.nd hi hx (by rw [hsp]; exact hsw) hit ok hg ht he hs)
  rw [hv]
  exact tbl_set hsub hq
theorem s_asg (k : Ctx X g W) (hs : swapsWithSole [eb] ea pos.line X.env = pure false) (hw' : swappedStores [eb] ea X.env = pure none) (hn : noStar eb = true) (he : PE X ea (semP g sg call W a)) (hg : PG X eb (tG g sg call tg)) : PS X (.Assign [eb] ea pos) (semS g sg call W (.asg tg a)) := by
  refine PS.imp (fun D σ H hq => ?_) (ps_asg he hg hs hw' (asg1 hn [] X.env))
  obtain ⟨env, Mu, st, hw⟩ := hq
  simp only [den, wpR_bind] at hw
  refine semP_of st hw (fun _ _ x => x) fun t env1 v H1 M1 P ok hw => ?_
  obtain ⟨d, env2, M2, hw, P2, r⟩ := shareD_ok P.st ok hw
  have P3 := P.trans st P2
  refine ⟨env2, M2, d, P3.st, r, ?_⟩
  exact wpR_mono (wpR_noEx hw) (fun _ env3 hw σ' P4 _ => hw σ' H1 M2 (P3.trans st P4)) fun _ _ z => z
theorem s_par {i j : Nat} {x y : Str} {px py pt : Pos} {kt k2 : Nat} {pt2 : Pos} (k : Ctx X g W) (hi : X.N[i]? = some x) (hj : X.N[j]? = some y) (hij : i ≠ j) (hx : X.env.scope.names.lookup x = some .local) (hy : X.env.scope.names.lookup y = some .local)
    (ns1 : noStar ea = true) (ns2 : noStar eb = true) (ha : PE X ea (semP g sg call W a)) (hb : PE X eb (semP g sg call W b)) (hw' : swappedStores [.Tuple [.Name x px, .Name y py] kt pt] (.Tuple [ea, eb] k2 pt2) X.env = pure (some [x, y])) :
    PS X (.Assign [.Tuple [.Name x px, .Name y py] kt pt] (.Tuple [ea, eb] k2 pt2) pos) (semS g sg call W (.par i j a b)) := by
  refine PS.imp (fun D σ H hq => ?_) (ps_par k.calm k.nd hi hj hij hx hy (pa_cons ha (pa_cons hb pa_nil (star1 ns2 [] X.env)) (star1 ns1 [eb] X.env)) hw' (by rfl))
  obtain ⟨env, Mu, st, hw⟩ := hq
  simp only [den, wpR_bind] at hw
  refine semP_of st hw (fun _ _ x => x) fun t1 env1 v1 H1 M1 P1 o1 hw => ?_
  refine semP_of P1.st hw (ExP.step st P1) fun t2 env2 v2 H2 M2 P2 o2 hw => ?_
  obtain ⟨s1, env3, M3, hw, P3, r1, no1⟩ := share_ok P2.st (o1.up P2.fr.grows) hw
  obtain ⟨s2, env4, M4, hw, P4, r2, no2⟩ := share_ok P3.st (o2.up P3.fr.grows) hw
  have nt : ∀ {s : Sl}, (∀ d, s ≠ .own d) ∧ (∀ d, s ≠ .own2 d) → ∀ {H : Hp} {v : V} {p : Addr}, ¬ OwnAt H s v p := fun {s} n {H v p} o => by
    cases s with
    | imm d => exact o
    | exc x => exact o
    | own d => exact n.1 d rfl
    | own2 d => exact n.2 d rfl
  have r1' : SlOk g H2 M4 v1 s1 := r1.up P4.fr fun p o => (nt no1 o).elim
  obtain ⟨np, hl, hw⟩ := store_use hw
  have P5 := Post.put P4.st np r1' no1.1 no1.2
  obtain ⟨np2, hl2, hw⟩ := store_use hw
  have r2' : SlOk g H2 M4 v2 s2 := r2.up P5.fr fun p o => (nt no2 o).elim
  have P6 := Post.put P5.st np2 r2' no2.1 no2.2
  exact ⟨v1, v2, rfl, hw _ H2 M4 ((((P1.trans st P2).trans st P3).trans st P4).trans st (P5.trans P4.st P6))⟩

theorem Post.poke {i : Nat} {s0 s1 : Sl} {q : Addr} {o : HO} (st : Sta g env σ H Mu) (e : env[i]? = some (some s0)) (es : σ[i]? = some (some v)) (oq : OwnAt H s0 v q) (hs : SlOk g (upd H q o) Mu v s1) (ow : ∀ p, OwnAt (upd H q o) s1 v p → OwnAt H s0 v p) :
    Post g env σ H Mu (env.set i (some s1)) σ (upd H q o) Mu := by
  have op : Own H env σ q := ⟨i, _, _, e, es, oq⟩
  obtain ⟨hq, mq⟩ := st.own_some op
  have f : Fr (fun p => p = q) H Mu (upd H q o) Mu := Fr.wr mq hq rfl
  -- what the slots own now, they owned
  have back : ∀ {j : Nat} {a : Sl} {w : V} {p : Addr}, (env.set i (some s1))[j]? = some (some a) → σ[j]? = some (some w) → OwnAt (upd H q o) a w p → ∃ b, env[j]? = some (some b) ∧ OwnAt H b w p := fun {j a w p} h sj oj => by
    rcases getset h with ⟨rfl, _, h'⟩ | ⟨ne, h'⟩
    · have ea : a = s1 := Option.some.inj h'
      subst ea
      rw [es] at sj
      have ev : v = w := Option.some.inj (Option.some.inj sj)
      subst ev
      exact ⟨_, e, ow p oj⟩
    · obtain ⟨u, e3, h3⟩ := st.sl j a h'
      rw [sj] at e3
      have ev : w = u := Option.some.inj (Option.some.inj e3)
      subst ev
      refine ⟨a, h', h3.at_up f (fun p' o' z => ne ?_) oj⟩
      have z' : p' = q := z
      subst z'
      exact st.inj j i _ _ _ _ p' h' e sj es o' oq
  refine ⟨⟨fun j sl ej => ?_, fun j k a b w w' p ej ek sj sk oj ok => ?_, fun p h => f.e p (st.mh p h), st.pin, by rw [List.length_set]; exact st.len⟩, f.more fun p z => by rw [z]; exact op, fun p o => .inl ?_⟩
  · rcases getset ej with ⟨rfl, _, e'⟩ | ⟨ne, ej'⟩
    · have e2 : sl = s1 := Option.some.inj e'
      subst e2
      exact ⟨_, es, hs⟩
    · obtain ⟨w, ev, hw⟩ := st.sl j sl ej'
      refine ⟨w, ev, hw.up f fun p o' z => ne ?_⟩
      have z' : p = q := z
      subst z'
      exact st.inj j i _ _ _ _ p ej' e ev es o' oq
  · obtain ⟨a', e1, o1⟩ := back ej sj oj
    obtain ⟨b', e2, o2⟩ := back ek sk ok
    exact st.inj j k _ _ _ _ p e1 e2 sj sk o1 o2
  · obtain ⟨j, a, w, ej, sj, oj⟩ := o
    obtain ⟨b, e1, o1⟩ := back ej sj oj
    exact ⟨j, b, w, e1, sj, o1⟩
theorem Post.write {i : Nat} {ds ds' : List D} {p : Addr} {vs vs' : List V} (st : Sta g env σ H Mu) (e : env[i]? = some (some (.own (.list ds)))) (es : σ[i]? = some (some (.ref p))) (m : Mu p) (hp : H p = some (.lst vs)) (r : RpAll g.K (hid H Mu) vs' ds') :
    Post g env σ H Mu (env.set i (some (.own (.list ds')))) σ (upd H p (.lst vs')) Mu := by
  have f : Fr (fun q => q = p) H Mu (upd H p (.lst vs')) Mu := Fr.wr m (by rw [hp]; simp) rfl
  exact Post.poke st e es rfl ⟨p, vs', rfl, m, upd_same, r.up f.grows⟩ fun _ z => z
theorem ownL {i : Nat} {ds : List D} (st : Sta g env σ H Mu) (e : env[i]? = some (some (.own (.list ds)))) : ∃ p vs, σ[i]? = some (some (.ref p)) ∧ Mu p ∧ H p = some (.lst vs) ∧ RpAll g.K (hid H Mu) vs ds := by
  obtain ⟨v, ev, p, vs, rfl, m, hp, r⟩ := st.sl i _ e
  exact ⟨p, vs, ev, m, hp, r⟩
theorem isL_use {s : Sl} {R : Unit → Env → Prop} {E : Exn → Env → Prop} (h : wpR (isL s env) R E) : (∃ ds, s = .own (.list ds)) ∧ R () env := by
  cases s with
  | own d =>
    cases d with
    | list ds => exact ⟨⟨ds, rfl⟩, h⟩
    | _ => exact h.elim
  | _ => exact h.elim
theorem asg_sub {x : Str} {p1 p2 : Pos} (h : plainIx eb = true) (env : PySem.Env) (v : Value) : assign (.Subscript (.Name x p1) eb p2) env v = (do
      let ov ← holding [v] (eval (.Name x p1) env)
      let iv ← holding [v, ov] (eval eb env)
      standAt p2
      holding [v, ov, iv] (setItem ov iv v)
      release [v, ov, iv] []) := by
  cases eb <;> first | rfl | cases h
theorem asg_sub2 {eo : Expr} {p2 : Pos} (h : plainIx eb = true) (env : PySem.Env) (v : Value) : assign (.Subscript eo eb p2) env v = (do
      let ov ← holding [v] (eval eo env)
      let iv ← holding [v, ov] (eval eb env)
      standAt p2
      holding [v, ov, iv] (setItem ov iv v)
      release [v, ov, iv] []) := by
  cases eb <;> first | rfl | cases h
theorem s_stI {i : Nat} {x : Str} {p1 p2 : Pos} (k : Ctx X g W) (hi : X.N[i]? = some x) (hv : Vis X.env.scope x) (hd : (x == ("__debug__" : Str)) = false) (hcd : (x == ("__classdict__" : Str)) = false) (hsw : swapsWith ea (some (.Subscript (.Name x p1) eb p2)) pos.line X.env = pure false) (hp : plainIx eb = true)
    (ha : PE X ea (semP g sg call W a)) (hb : PE X eb (semP g sg call W b)) : PS X (.Assign [.Subscript (.Name x p1) eb p2] ea pos) (semS g sg call W (.stI i b a)) := by
  have hsw2 : swappedStores [.Subscript (.Name x p1) eb p2] ea X.env = pure none := by
    unfold swappedStores
    rfl
  refine PS.imp (fun D σ H hq => ?_) (ps_asg ha (pg_sub (pe_var hi hv hd hcd) hb set_list (asg_sub hp X.env)) hsw hsw2)
  obtain ⟨env, Mu, st, hw⟩ := hq
  simp only [den, wpR_bind] at hw
  refine semP_of st hw (fun _ _ x => x) fun t env1 v H1 M1 P1 o1 hw => ?_
  obtain ⟨s0, e0, hw⟩ := wpR_getS.mp hw
  obtain ⟨⟨ds0, rfl⟩, hw⟩ := isL_use hw
  obtain ⟨p, _, es, _⟩ := ownL P1.st e0
  refine ⟨_, es, ?_⟩
  refine semP_of P1.st hw (ExP.step st P1) fun t2 env2 v2 H2 M2 P2 o2 hw => ?_
  have P := P1.trans st P2
  obtain ⟨d, env3, M3, hw, P3, r⟩ := shareD_ok P2.st (o1.up P2.fr.grows) hw
  obtain ⟨kx, rfl, hw⟩ := intOf_ok P3.st (o2.up P3.fr.grows).ok hw
  obtain ⟨s, e, hw⟩ := wpR_getS.mp hw
  cases s with
  | own dd =>
    cases dd with
    | list xs =>
      obtain ⟨p', us, es', m, hp', rr⟩ := ownL P3.st e
      rw [es] at es'
      cases es'
      cases hn : ixN xs.length kx with
      | none =>
        simp only [hn] at hw
        exact hw.elim
      | some n =>
        simp only [hn] at hw
        refine ⟨p, us, kx, n, rfl, rfl, hp', by rw [rr.length]; exact hn, ?_⟩
        exact hw σ _ M3 ((P.trans st P3).trans st (Post.write P3.st e es m hp' (rr.put n r)))
    | _ => exact hw.elim
  | _ => exact hw.elim
theorem Sta.putSame {i : Nat} {s : Sl} (st : Sta g env σ H Mu) (es : σ[i]? = some (some v)) (hs : SlOk g H Mu v s) (no : ∀ p, OwnAt H s v p → ¬ Own H env σ p) :
    Sta g (env.set i (some s)) σ H Mu ∧ ∀ p, Own H (env.set i (some s)) σ p → Own H env σ p ∨ OwnAt H s v p := by
  refine ⟨⟨fun j sl e => ?_, fun j k a b w w' p ej ek sj sk oj ok => ?_, st.mh, st.pin, by rw [List.length_set]; exact st.len⟩, fun p o => ?_⟩
  · rcases getset e with ⟨rfl, hl, e'⟩ | ⟨ne, e'⟩
    · have e2 : sl = s := Option.some.inj e'
      subst e2
      exact ⟨v, es, hs⟩
    · exact st.sl j sl e'
  · rcases getset ej with ⟨rfl, hl, e1⟩ | ⟨ne, e1⟩
    · rcases getset ek with ⟨rfl, _, e2⟩ | ⟨ne2, e2⟩
      · rfl
      · rw [es] at sj
        have ev : v = w := Option.some.inj (Option.some.inj sj)
        have es : a = s := Option.some.inj e1
        subst ev es
        exact (no p oj ⟨k, _, _, e2, sk, ok⟩).elim
    · rcases getset ek with ⟨rfl, hl, e2⟩ | ⟨ne2, e2⟩
      · rw [es] at sk
        have ev : v = w' := Option.some.inj (Option.some.inj sk)
        have es : b = s := Option.some.inj e2
        subst ev es
        exact (no p ok ⟨j, _, _, e1, sj, oj⟩).elim
      · exact st.inj j k _ _ _ _ p e1 e2 sj sk oj ok
  · obtain ⟨j, a, w, ej, sj, oj⟩ := o
    rcases getset ej with ⟨rfl, _, e1⟩ | ⟨ne, e1⟩
    · rw [es] at sj
      have ev : v = w := Option.some.inj (Option.some.inj sj)
      have es : a = s := Option.some.inj e1
      subst ev es
      exact .inr oj
    · exact .inl ⟨j, _, _, e1, sj, oj⟩
/-- a slot's value is put aside and taken again -/
theorem Post.regain {i : Nat} {s : Sl} (st : Sta g env σ H Mu) (e : env[i]? = some (some s)) (es : σ[i]? = some (some v)) (P : Post g (env.set i none) σ H Mu env1 σ H1 M1) :
    Post g env σ H Mu (env1.set i (some s)) σ H1 M1 ∧ SlOk g H1 M1 v s ∧ ∀ p, OwnAt H1 s v p → OwnAt H s v p := by
  obtain ⟨u, e3, hs⟩ := st.sl i s e
  rw [es] at e3
  have e4 : v = u := Option.some.inj (Option.some.inj e3)
  subst e4
  have no : ∀ p, OwnAt H s v p → ¬ Own H (env.set i none) σ p := fun p o z => (Own.of_set_none (g := g) (Mu := Mu) z).2 _ _ e st es o
  have hs1 := hs.up P.fr no
  have at1 : ∀ p, OwnAt H1 s v p → OwnAt H s v p := fun p o => hs.at_up P.fr no o
  have no1 : ∀ p, OwnAt H1 s v p → ¬ Own H1 env1 σ p := fun p o z => (P.sub p z).elim (no p (at1 p o)) fun zn => (st.own_some ⟨i, s, v, e, es, at1 p o⟩).1 zn
  obtain ⟨st2, ow⟩ := P.st.putSame es hs1 no1
  have DP := (Post.drop st i).trans st P
  exact ⟨⟨st2, DP.fr, fun p o => (ow p o).elim (DP.sub p) fun z => .inl ⟨i, s, v, e, es, at1 p z⟩⟩, hs1, at1⟩
theorem Rows.put {K : PySem.W.Frag} {q : Addr} {ws' : List V} {ds' : List D} : ∀ {us : List V} {dss : List (List D)} {n : Nat}, Rows K H Mu us dss → us.Nodup → us[n]? = some (.ref q) → Fr (fun p => p = q) H Mu (upd H q (.lst ws')) Mu → RpAll K (hid (upd H q (.lst ws')) Mu) ws' ds' → Rows K (upd H q (.lst ws')) Mu us (dss.set n ds')
  | _, _, _, .nil, _, e, _, _ => by simp at e
  | _, _, 0, .cons m h r t, nd, e, f, r' => by
    obtain ⟨n1, n2⟩ := List.nodup_cons.mp nd
    have e' := e
    simp only [List.getElem?_cons_zero, Option.some.injEq, V.ref.injEq] at e'
    subst e'
    exact .cons m upd_same r' (t.up (g := ⟨K, fun _ => none, [], [], [], fun _ => none⟩) f fun p hp z => n1 (by rw [← z]; exact hp))
  | _, _, n + 1, .cons m h r t, nd, e, f, r' => by
    obtain ⟨n1, n2⟩ := List.nodup_cons.mp nd
    have e' := e
    rw [List.getElem?_cons_succ] at e'
    refine .cons m ((upd_ne fun z => n1 ?_).trans h) (r.up f.grows) (t.put n2 e' f r')
    rw [z]
    exact List.mem_of_getElem? e'
theorem s_st2 {i : Nat} {x : Str} {ec : Expr} {p1 p2 p3 : Pos} (k : Ctx X g W) (hi : X.N[i]? = some x) (hv : Vis X.env.scope x) (hd : (x == ("__debug__" : Str)) = false) (hcd : (x == ("__classdict__" : Str)) = false) (hsw : swapsWith ea (some (.Subscript (.Subscript (.Name x p1) eb p2) ec p3)) pos.line X.env = pure false) (hp : plainIx eb = true) (hp2 : plainIx ec = true)
    (ha : PE X ea (semP g sg call W a)) (hb : PE X eb (semP g sg call W b)) (hc : PE X ec (semP g sg call W c)) : PS X (.Assign [.Subscript (.Subscript (.Name x p1) eb p2) ec p3] ea pos) (semS g sg call W (.st2 i b c a)) := by
  have hsw2 : swappedStores [.Subscript (.Subscript (.Name x p1) eb p2) ec p3] ea X.env = pure none := by
    unfold swappedStores
    rfl
  have o := ix_list (X := X)
  rw [k.K] at o
  refine PS.imp (fun D σ H hq => ?_) (ps_asg ha (pg_sub (pe_ix o (pe_var hi hv hd hcd) hb (plain_ix hp)) hc set_list (asg_sub2 hp2 X.env)) hsw hsw2)
  obtain ⟨env, Mu, st, hw⟩ := hq
  simp only [den, wpR_bind] at hw
  refine semP_of st hw (fun _ _ x => x) fun t env1 v H1 M1 P1 o1 hw => ?_
  obtain ⟨s1, e1, hw⟩ := wpR_getS.mp hw
  obtain ⟨u1, es, _⟩ := P1.st.sl i s1 e1
  cases s1 with
  | own2 dss1 =>
    refine ⟨u1, es, ?_⟩
    show semP g sg call W b σ H1 _
    refine semP_of P1.st hw (ExP.step st P1) fun t2 env2 v2 H2 M2 P2 o2 hw => ?_
    have P12 := P1.trans st P2
    obtain ⟨kx, rfl, hw⟩ := intOf_ok P2.st o2.ok hw
    obtain ⟨s0, e0, hw⟩ := wpR_getS.mp hw
    cases s0 with
    | own2 dss =>
      simp only [wpR_bind] at hw
      obtain ⟨u, es2, hs0⟩ := P2.st.sl i _ e0
      rw [es] at es2
      have eu : u1 = u := Option.some.inj (Option.some.inj es2)
      subst eu
      obtain ⟨p, us, rfl, m, hpp, nd, np, rows⟩ := hs0
      have hw : wpR ((liftO (ixN dss.length kx) : M Nat) (env2.set i none)) _ _ := hw
      obtain ⟨n, en, hw⟩ := wpR_lift.mp hw
      have hn : n < us.length := by
        rw [rows.length]
        exact (ixN_seq en).2.1
      have eu : us[n]? = some us[n] := List.getElem?_eq_getElem hn
      refine ⟨p, us, kx, us[n], rfl, rfl, .of hpp, ?_, ?_⟩
      · unfold atI
        rw [rows.length, en]
        exact eu
      -- the table is put aside
      have D0 := Post.drop P2.st i
      show semP g sg call W c σ H2 _
      refine semP_of D0.st hw (ExP.step st (P12.trans st D0)) fun t3 env3 v3 H3 M3 P3 o3 hw => ?_
      have g13 : Grows (hid H1 M1) (hid H3 M3) := fun a o q => P3.fr.grows a o (P2.fr.grows a o q)
      obtain ⟨d, env4, M4, hw, P4, r⟩ := shareD_ok P3.st (o1.up g13) hw
      have P34 := P3.trans D0.st P4
      obtain ⟨lx, rfl, hw⟩ := intOf_ok P4.st (o3.up P4.fr.grows).ok hw
      obtain ⟨row, er, hw⟩ := wpR_lift.mp hw
      obtain ⟨mm, em, hw⟩ := wpR_lift.mp hw
      obtain ⟨P5, hs5, _⟩ := Post.regain P2.st e0 es P34
      obtain ⟨p', us', z, m', hp', nd', np', rows'⟩ := hs5
      cases z
      -- the root stands as it was
      have eroot : H3 p = H2 p := (P34.fr.b p m fun o => (Own.of_set_none (g := g) (Mu := M2) o).2 _ _ e0 P2.st es (.inl rfl)).2
      rw [eroot, hpp] at hp'
      cases hp'
      obtain ⟨q, ws, eq, mq, hq, rq⟩ := rows'.at_ er
      have eqn : us[n] = V.ref q := Option.some.inj (eu.symm.trans eq)
      refine ⟨q, ws, lx, mm, eqn, rfl, hq, by rw [rq.length]; exact em, ?_⟩
      have hmem : V.ref q ∈ us := by rw [← eqn]; exact List.getElem_mem hn
      have npq : p ≠ q := fun z => np (by rw [z]; exact hmem)
      have f : Fr (fun a => a = q) H3 M4 (upd H3 q (.lst (ws.set mm v))) M4 := Fr.wr mq (by rw [hq]; simp) rfl
      have li : i < env4.length := by
        have a1 := P34.st.len
        have a2 := (List.getElem?_eq_some_iff.mp es).1
        omega
      have P6 : Post g (env4.set i (some (.own2 dss))) σ H3 M4 ((env4.set i (some (.own2 dss))).set i (some (.own2 (dss.set n (row.set mm d))))) σ (upd H3 q (.lst (ws.set mm v))) M4 := by
        refine Post.poke P5.st (List.getElem?_set_self li) es (.inr ⟨p, us, rfl, eroot.trans hpp, hmem⟩) ⟨p, us, rfl, m', (upd_ne npq).trans (eroot.trans hpp), nd, np, rows'.put nd eq f ((rq.put mm r).up f.grows)⟩ fun a oa => ?_
        rcases oa with oa | ⟨r', us', e, hr, ha⟩
        · exact .inl oa
        · cases e
          rw [upd_ne npq] at hr
          exact .inr ⟨p, us', rfl, hr, ha⟩
      rw [List.set_set] at P6
      exact hw σ _ M4 (P12.trans st (P5.trans P2.st P6))
    | _ => exact hw.elim
  | _ => exact hw.elim
theorem s_app {i : Nat} {x : Str} {p1 p2 p3 : Pos} (k : Ctx X g W) (hi : X.N[i]? = some x) (hv : Vis X.env.scope x) (hd : (x == ("__debug__" : Str)) = false) (hcd : (x == ("__classdict__" : Str)) = false) (hl : (p2.endLine == p3.line) = true) (hns : noStar ea = true)
    (ha : PE X ea (semP g sg call W a)) : PS X (.Expr (.Call (.Attribute (.Name x p1) "append" p2) [ea] [] p3) pos) (semS g sg call W (.app i a)) := by
  have bm : PE X (.Call (.Attribute (.Name x p1) "append" p2) [ea] [] p3) (tBM X.K "list" rAppend (tVar i) (tCons (semP g sg call W a) tNil)) :=
    pe_bm PySem.F.plainAttrs_list PySem.F.slot_list_append PySem.F.type_list_append mt_append (pe_var hi hv hd hcd) (pa_cons ha pa_nil (star1 hns [] X.env)) (by rfl) (by rw [star1 hns]; rfl) hl (star1 hns [] X.env) (by rfl)
  rw [k.K] at bm
  refine PS.imp (fun D σ H hq => ?_) (ps_expr bm (by rfl))
  obtain ⟨env, Mu, st, hw⟩ := hq
  simp only [den, wpR_bind] at hw
  obtain ⟨s0, e0, hw⟩ := wpR_getS.mp hw
  obtain ⟨⟨ds0, rfl⟩, hw⟩ := isL_use hw
  obtain ⟨p, vs0, es, _, hp0, _⟩ := ownL st e0
  refine ⟨_, es, .inl ⟨rfl, vs0, .inl (.inl hp0)⟩, ?_⟩
  refine semP_of st hw (fun _ _ x => x) fun t env1 v H1 M1 P1 o1 hw => ?_
  obtain ⟨d, env2, M2, hw, P2, r⟩ := shareD_ok P1.st o1 hw
  have P := P1.trans st P2
  obtain ⟨s, e, hw⟩ := wpR_getS.mp hw
  cases s with
  | own dd =>
    cases dd with
    | list xs =>
      obtain ⟨p', us, es', m, hp', rr⟩ := ownL P.st e
      rw [es] at es'
      cases es'
      by_cases hl : xs.length < lim
      · simp only [hl, if_true, wpR_bind] at hw
        refine ⟨p, us, v, rfl, rfl, hp', ?_, ?_⟩
        · rw [rr.length]
          exact Nat.lt_of_lt_of_le hl (lim_line (Nat.le_refl _))
        · exact hw σ _ M2 (P.trans st (Post.write P.st e es m hp' (rr.app (.cons r .nil))))
      · simp only [hl, if_false] at hw
        exact hw.elim
    | _ => exact hw.elim
  | _ => exact hw.elim
theorem s_extd {i : Nat} {x : Str} {p1 p2 p3 : Pos} (k : Ctx X g W) (hi : X.N[i]? = some x) (hv : Vis X.env.scope x) (hd : (x == ("__debug__" : Str)) = false) (hcd : (x == ("__classdict__" : Str)) = false) (hl : (p2.endLine == p3.line) = true) (hns : noStar ea = true)
    (ha : PE X ea (semE g sg call W a)) : PS X (.Expr (.Call (.Attribute (.Name x p1) "extend" p2) [ea] [] p3) pos) (semS g sg call W (.extd i a)) := by
  have bm : PE X (.Call (.Attribute (.Name x p1) "extend" p2) [ea] [] p3) (tBM X.K "list" rExtend (tVar i) (tCons (semE g sg call W a) tNil)) :=
    pe_bm PySem.F.plainAttrs_list PySem.F.slot_list_extend PySem.F.type_list_extend mt_extend (pe_var hi hv hd hcd) (pa_cons ha pa_nil (star1 hns [] X.env)) (by rfl) (by rw [star1 hns]; rfl) hl (star1 hns [] X.env) (by rfl)
  rw [k.K] at bm
  refine PS.imp (fun D σ H hq => ?_) (ps_expr bm (by rfl))
  obtain ⟨env, Mu, st, hw⟩ := hq
  simp only [den, wpR_bind] at hw
  obtain ⟨s0, e0, hw⟩ := wpR_getS.mp hw
  obtain ⟨⟨ds0, rfl⟩, hw⟩ := isL_use hw
  obtain ⟨p, vs0, es, _, hp0, _⟩ := ownL st e0
  refine ⟨_, es, .inl ⟨rfl, vs0, .inl (.inl hp0)⟩, ?_⟩
  refine ⟨env, Mu, st, wpR_mono hw (fun t env1 hw v H1 M1 P ok og => ?_) fun _ _ x => x⟩
  cases t with
  | ref _ => exact hw.elim
  | val s =>
    cases s with
    | own dd =>
      cases dd with
      | list ys =>
        obtain ⟨q, ws, ds, rfl, z, mq, hq, rq⟩ := ok.1.there
        cases z
        obtain ⟨s, e, hw⟩ := wpR_getS.mp (wpR_bind.mp hw)
        cases s with
        | own dd =>
          cases dd with
          | list xs =>
            obtain ⟨p', us, es', m, hp', rr⟩ := ownL P.st e
            rw [es] at es'
            cases es'
            by_cases hl : xs.length + ys.length ≤ lim
            · simp only [hl, if_true, wpR_bind] at hw
              refine ⟨p, q, us, ws, rfl, rfl, hp', hq, ?_, ?_⟩
              · rw [rr.length, rq.length]
                exact lim_line hl
              · exact hw σ _ M1 (P.trans st (Post.write P.st e es m hp' (rr.app rq)))
            · simp only [hl, if_false] at hw
              exact hw.elim
          | _ => exact hw.elim
        | _ => exact hw.elim
      | _ => exact hw.elim
    | _ => exact hw.elim
theorem s_popS {i : Nat} {x : Str} {p1 p2 p3 : Pos} (k : Ctx X g W) (hi : X.N[i]? = some x) (hv : Vis X.env.scope x) (hd : (x == ("__debug__" : Str)) = false) (hcd : (x == ("__classdict__" : Str)) = false) (hl : (p2.endLine == p3.line) = true) :
    PS X (.Expr (.Call (.Attribute (.Name x p1) "pop" p2) [] [] p3) pos) (semS g sg call W (.popS i)) := by
  have bm : PE X (.Call (.Attribute (.Name x p1) "pop" p2) [] [] p3) (tBM0 X.K "list" rPop (tVar i)) :=
    pe_bm0 PySem.F.plainAttrs_list PySem.F.slot_list_pop PySem.F.type_list_pop mt_pop (pe_var hi hv hd hcd) (by rfl) hl
  rw [k.K] at bm
  refine PS.imp (fun D σ H hq => ?_) (ps_expr bm (by rfl))
  obtain ⟨env, Mu, st, hw⟩ := hq
  simp only [den, wpR_bind] at hw
  obtain ⟨s, e, hw⟩ := wpR_getS.mp hw
  cases s with
  | own dd =>
    cases dd with
    | list xs =>
      obtain ⟨p, us, es, m, hp, rr⟩ := ownL st e
      by_cases hx : xs ≠ []
      · simp only [hx, if_true, not_false_eq_true, ne_eq, wpR_bind] at hw
        have ul := rr.length
        have xl : xs.length ≠ 0 := fun z => hx (List.eq_nil_of_length_eq_zero z)
        have hlast : us[us.length - 1]? = some (us[us.length - 1]'(by omega)) := List.getElem?_eq_getElem _
        refine ⟨_, es, .inl ⟨rfl, us, .inl (.inl hp)⟩, p, us, _, rfl, rfl, hp, hlast, ?_⟩
        have rd : RpAll g.K (hid H Mu) us.dropLast xs.dropLast := by
          rw [List.dropLast_eq_take, List.dropLast_eq_take, ul]
          exact rr.tk _
        exact hw σ _ Mu (Post.write st e es m hp rd)
      · simp only [hx, if_false] at hw
        exact hw.elim
    | _ => exact hw.elim
  | _ => exact hw.elim
theorem s_exS (hsw : swapsWith ea none pos.line X.env = pure false) (ha : PE X ea (semP g sg call W a)) : PS X (.Expr ea pos) (semS g sg call W (.exS a)) := by
  refine PS.imp (fun D σ H hq => ?_) (ps_expr ha hsw)
  obtain ⟨env, Mu, st, hw⟩ := hq
  simp only [den, wpR_bind] at hw
  exact semP_of st hw (fun _ _ x => x) fun t env1 v H1 M1 P1 o1 hw => hw σ H1 M1 P1
theorem s_ifS (hc : PT X ec (semT g sg call W c)) (ha : PSs X ba (semS g sg call W a)) (hb : PSs X bb (semS g sg call W b)) : PS X (.If ec ba bb pos) (semS g sg call W (.ifS c a b)) := by
  refine PS.imp (fun D σ H hq => ?_) (ps_if hc ha hb)
  obtain ⟨env, Mu, st, hw⟩ := hq
  simp only [den, wpR_bind] at hw
  refine semT_of (E := ExP g W env σ H Mu) st (wpR_bind.mpr hw) (fun _ _ x => x) fun r env1 H1 M1 P1 hw => ?_
  cases r with
  | true =>
    simp only [if_true] at hw ⊢
    exact semS_of P1.st hw (ExP.step st P1) (FlP.step st P1)
  | false =>
    simp only [Bool.false_eq_true, if_false] at hw ⊢
    exact semS_of P1.st hw (ExP.step st P1) (FlP.step st P1)
theorem s_ret (ha : PE X ea (semE g sg call W a)) : PS X (.Return (some ea) pos) (semS g sg call W (.ret a)) := by
  refine PS.imp (fun D σ H hq => ?_) (ps_ret ha)
  obtain ⟨env, Mu, st, hw⟩ := hq
  simp only [den, wpR_bind] at hw
  refine semE_of st hw (fun _ _ x => x) fun t env1 v H1 M1 P ok og hw => ?_
  cases t with
  | val s => exact hw v σ H1 M1 P ok og
  | ref j =>
    obtain ⟨sl, envB, M2, hw, P2, hs, no⟩ := share_ok (t := .ref j) P.st ok hw
    refine hw v σ H1 M2 (P.trans st P2) ?_ ?_
    · cases sl with
      | own d => exact (no.1 d rfl).elim
      | own2 d => exact (no.2 d rfl).elim
      | imm d => exact hs
      | exc x => exact hs
    · cases sl with
      | own d => exact (no.1 d rfl).elim
      | own2 d => exact (no.2 d rfl).elim
      | imm d => exact trivial
      | exc x => exact trivial
theorem s_retN : PS X (.Return none pos) (semS g sg call W .retN) := by
  refine PS.imp (fun D σ H hq => ?_) ps_retN
  obtain ⟨env, Mu, st, hw⟩ := hq
  exact hw .non σ H Mu (.refl st) .non trivial
theorem s_brk : PS X (.Break pos) (semS g sg call W .brk) := by
  refine PS.imp (fun D σ H hq => ?_) ps_break
  obtain ⟨env, Mu, st, hw⟩ := hq
  exact hw σ H Mu (.refl st)
theorem s_cnt : PS X (.Continue pos) (semS g sg call W .cnt) := by
  refine PS.imp (fun D σ H hq => ?_) ps_continue
  obtain ⟨env, Mu, st, hw⟩ := hq
  exact hw σ H Mu (.refl st)
theorem s_pass : PS X (.Pass pos) (semS g sg call W .pass) := by
  refine PS.imp (fun D σ H hq => ?_) ps_pass
  obtain ⟨env, Mu, st, hw⟩ := hq
  exact hw σ H Mu (.refl st)
theorem s_never : PS X ss (semS g sg call W .never) := by
  refine PS.imp (fun D σ H hq => ?_) ps_never
  obtain ⟨env, Mu, st, hw⟩ := hq
  exact hw.elim

theorem s_forS {tgx itx : Expr} (k : Ctx X g W) (po : PassesOwn (model X.prog X.w) X.A X.env X.xe) (hi : PI X tgx itx (semI g sg call W it)) (hg : PG X tgx (tG g sg call tg)) (hb : PSs X ba (semS g sg call W body)) (hs : ∀ x, foldedSetIterable itx X.env x = pure x) :
    PS X (.For tgx itx ba [] pos) (semS g sg call W (.forS tg it body)) := by
  refine PS.imp (fun D σ H hq => ?_) (ps_for po k.calm hi hg hb hs)
  obtain ⟨env, Mu, st, hw⟩ := hq
  simp only [den, wpR_bind] at hw
  refine semI_of st hw (fun _ _ x => x) fun xs env1 J H1 M1 P1 yl hw => ?_
  generalize hf : (fun x => noEx ((den sg call g.pins tg).G x) >>= fun _ => (den sg call g.pins body).S) = f at hw
  refine ⟨fun i m σ' H' => m = xs.length - i ∧ i ≤ xs.length ∧ ∃ env' Mu', Post g env1 σ H1 M1 env' σ' H' Mu' ∧ wpR (forLoop f (xs.drop i) env') (FlP g D env σ H Mu) (ExP g W env σ H Mu),
    ⟨xs.length, by simp, Nat.zero_le _, env1, M1, .refl P1.st, by simpa using hw⟩, ?_⟩
  rintro i m σ' H' ⟨rfl, hi', env', Mu', P, hwL⟩
  by_cases hlt : i < xs.length
  · refine .inr ?_
    have ed : xs.drop i = xs[i] :: xs.drop (i + 1) := List.drop_eq_getElem_cons hlt
    rw [ed] at hwL
    obtain ⟨go, item⟩ := yl.step H' Mu' (fun a o e => P.fr.grows a o e) i xs[i] (List.getElem?_eq_getElem hlt)
    refine ⟨go, fun σ6 H6 => ∃ env6 M6, Post g env1 σ H1 M1 env6 σ6 H6 M6 ∧ wpR (forLoop f (xs.drop (i + 1)) env6) (FlP g D env σ H Mu) (ExP g W env σ H Mu), fun σ6 H6 h6 => ⟨_, by omega, rfl, hlt, h6⟩, fun x H5 hy => ?_⟩
    obtain ⟨h5, rx⟩ := item x H5 hy
    have rx := rx P.st.mh
    have step5 : Post g env' σ' H' Mu' env' σ' H5 Mu' := by
      rcases h5 with rfl | ⟨T, ys, nT, rfl⟩
      · exact .refl P.st
      · exact (Post.refl P.st).newI P.st nT
    have P5 := P.trans P1.st step5
    simp only [forLoop, wpR_bind] at hwL
    rw [← congrFun hf xs[i]] at hwL
    simp only [wpR_bind] at hwL
    have hG : wpR ((den sg call g.pins tg).G xs[i] env') (fun _ e => wpR ((den sg call g.pins body).S e) (fun r e => wpR ((match r with | .nx => forLoop f (xs.drop (i + 1)) | .ct => forLoop f (xs.drop (i + 1)) | .bk => M.pure .nx | .rt s => M.pure (.rt s)) e) (FlP g D env σ H Mu) (ExP g W env σ H Mu)) (ExP g W env σ H Mu)) (fun _ _ => False) := wpR_noEx hwL
    refine ⟨env', Mu', xs[i], P5.st, rx, wpR_mono hG (fun _ envA hwA σ2 PA _ => ?_) fun _ _ z => z⟩
    have P6 := P5.trans P1.st PA
    have P6' := P1.trans st P6
    refine semS_of P6.st hwA (ExP.step st P6') fun fl e h => ?_
    cases fl with
    | nx => exact fun σ7 H7 M7 P7 => ⟨e, M7, P6.trans P1.st P7, h⟩
    | ct => exact fun σ7 H7 M7 P7 => ⟨e, M7, P6.trans P1.st P7, h⟩
    | bk => exact fun σ7 H7 M7 P7 => h σ7 H7 M7 (P6'.trans st P7)
    | rt s => exact FlP.step (De := D) st P6' (.rt s) e h
  · have ei : i = xs.length := by omega
    subst ei
    refine .inl ⟨yl.stop H' Mu' (fun a o e => P.fr.grows a o e) _ (Nat.le_refl _), ?_⟩
    rw [List.drop_length] at hwL
    exact hwL σ' H' Mu' (P1.trans st P)
theorem s_whl {fuel : Nat} (po : PassesOwn (model X.prog X.w) X.A X.env X.xe) (hc : PT X ec (semT g sg call W c)) (hb : PSs X ba (semS g sg call W body)) : PS X (.While ec ba [] pos) (semS g sg call W (.whl fuel c body)) := by
  refine PS.imp (fun D σ H hq => ?_) (ps_while po hc hb)
  obtain ⟨env, Mu, st, hw⟩ := hq
  simp only [den] at hw
  refine ⟨fun m σ' H' => ∃ env' Mu', Post g env σ H Mu env' σ' H' Mu' ∧ wpR (whlLoop ((den sg call g.pins c).P >>= boolOf) ((den sg call g.pins body).S) m env') (FlP g D env σ H Mu) (ExP g W env σ H Mu), ⟨fuel, env, Mu, .refl st, hw⟩, ?_⟩
  rintro m σ' H' ⟨env', Mu', P, hwL⟩
  cases m with
  | zero => exact hwL.elim
  | succ n =>
    simp only [whlLoop] at hwL
    refine semT_of P.st (wpR_bind.mp hwL) (ExP.step st P) fun b env1 H1 M1 P1 hw => ?_
    have P2 := P.trans st P1
    cases b with
    | false =>
      simp only [Bool.false_eq_true, if_false] at hw ⊢
      exact hw σ' H1 M1 P2
    | true =>
      simp only [if_true, wpR_bind] at hw ⊢
      refine ⟨fun σ6 H6 => ∃ env6 M6, Post g env σ H Mu env6 σ6 H6 M6 ∧ wpR (whlLoop ((den sg call g.pins c).P >>= boolOf) ((den sg call g.pins body).S) n env6) (FlP g D env σ H Mu) (ExP g W env σ H Mu), fun σ6 H6 h => ⟨n, Nat.lt_succ_self _, h⟩, ?_⟩
      refine semS_of P2.st hw (ExP.step st P2) fun fl e h => ?_
      cases fl with
      | nx => exact fun σ7 H7 M7 P7 => ⟨e, M7, P2.trans st P7, h⟩
      | ct => exact fun σ7 H7 M7 P7 => ⟨e, M7, P2.trans st P7, h⟩
      | bk => exact fun σ7 H7 M7 P7 => h σ7 H7 M7 (P2.trans st P7)
      | rt s => exact FlP.step (De := D) st P2 (.rt s) e h
end
end Ev
end
section
namespace Ev
open PySem PySem.Spec PyProof.Rows L2
section
variable {X : Cx} {g : Gx} {sg : Sig} {call : Call} {W : WX} {a b c as tg it cond body s r : C} {ea eb ec : Expr} {es : List Expr} {pos p' : Pos} {ss : Stmt} {rest ba bb : List Stmt}
variable {env env1 env2 env3 : Env} {σ σ1 σ2 σ3 : L2.St} {H H1 H2 H3 : Hp} {Mu M1 M2 M3 : Addr → Prop} {v w : V} {De : Ends}
/-- the same, with more places that stay -/
abbrev Gx.pin (g : Gx) (ps : List Nat) (σ : L2.St) : Gx := ⟨g.K, g.mg, ps ++ g.pins, σ, g.pn, g.gl⟩
theorem SlOk.pin {ps : List Nat} {s : Sl} : SlOk (g.pin ps σ) H Mu v s ↔ SlOk g H Mu v s := by
  cases s with
  | imm d => exact Iff.rfl
  | own d => cases d <;> exact Iff.rfl
  | own2 d => exact Iff.rfl
  | exc x => exact Iff.rfl
theorem Sta.pinned {ps : List Nat} (st : Sta g env σ H Mu) : Sta (g.pin ps σ) env σ H Mu :=
  ⟨fun i s e => by
    obtain ⟨v, e1, h⟩ := st.sl i s e
    exact ⟨v, e1, SlOk.pin.mpr h⟩, st.inj, st.mh, fun _ _ => rfl, st.len⟩
theorem Sta.unpin {ps : List Nat} {σ0 : L2.St} (h0 : ∀ k ∈ g.pins, σ0[k]? = g.st0[k]?) (st : Sta (g.pin ps σ0) env σ H Mu) : Sta g env σ H Mu :=
  ⟨fun i s e => by
    obtain ⟨v, e1, h⟩ := st.sl i s e
    exact ⟨v, e1, SlOk.pin.mp h⟩, st.inj, st.mh, fun k hk => (st.pin k (List.mem_append_right _ hk)).trans (h0 k hk), st.len⟩
/-- a row goes to a slot of its own, the table is put aside -/
theorem Post.lend {h i n : Nat} {dss : List (List D)} {row : List D} {p : Addr} {us : List V} (st : Sta g env σ H Mu) (np : h ∉ g.pins) (hl : h < env.length) (hi : h ≠ i) (e : env[i]? = some (some (.own2 dss))) (es : σ[i]? = some (some (.ref p))) (hp : H p = some (.lst us)) (er : dss[n]? = some row) :
    ∃ q ws, us[n]? = some (.ref q) ∧ H q = some (.lst ws) ∧ RpAll g.K (hid H Mu) ws row ∧ Post g env σ H Mu ((env.set h (some (.own (.list row)))).set i none) (σ.set h (some (.ref q))) H Mu := by
  obtain ⟨u, es2, hs⟩ := st.sl i _ e
  rw [es] at es2
  cases es2
  obtain ⟨p', us', z, m, hpp, nd, npu, rows⟩ := hs
  cases z
  rw [hp] at hpp
  cases hpp
  obtain ⟨q, ws, eq, mq, hq, rq⟩ := rows.at_ er
  refine ⟨q, ws, eq, hq, rq, ?_⟩
  have oq : OwnAt H (.own2 dss) (.ref p) q := .inr ⟨p, us, rfl, hp, List.mem_of_getElem? eq⟩
  have D0 := Post.drop st i
  have no : ¬ Own H (env.set i none) σ q := fun z => (Own.of_set_none (g := g) (Mu := Mu) z).2 _ _ e st es oq
  have S1 : Sta g ((env.set i none).set h (some (.own (.list row)))) (σ.set h (some (.ref q))) H Mu :=
    D0.st.put np ⟨q, ws, rfl, mq, hq, rq⟩ fun a oa => by
      have ea : V.ref q = .ref a := oa
      cases ea
      exact no
  have ee : (env.set h (some (.own (.list row)))).set i none = (env.set i none).set h (some (.own (.list row))) := List.set_comm _ _ hi
  rw [ee]
  refine ⟨S1, .refl, fun a oa => .inl ?_⟩
  obtain ⟨j, s, v, ej, sj, oj⟩ := oa
  rcases getset ej with ⟨rfl, _, e'⟩ | ⟨ne, ej'⟩
  · have e2 : s = .own (.list row) := Option.some.inj e'
    subst e2
    have hlσ : j < σ.length := by rw [← st.len]; exact hl
    rw [List.getElem?_set_self hlσ] at sj
    have ev : V.ref q = v := Option.some.inj (Option.some.inj sj)
    subst ev
    have ea : V.ref q = .ref a := oj
    cases ea
    exact ⟨i, _, _, e, es, oq⟩
  · rw [List.getElem?_set_ne (Ne.symm ne)] at sj
    exact (Own.of_set_none (g := g) (Mu := Mu) (σ := σ) ⟨j, s, v, ej', sj, oj⟩).1
/-- .. and comes back -/
theorem Post.unlend {h i n : Nat} {dss : List (List D)} {row row' : List D} {p q : Addr} {us : List V} (st : Sta g env σ H Mu) (hi : h ≠ i) (hh : h < env.length) (hil : i < env.length) (e : env[i]? = some (some (.own2 dss))) (es : σ[i]? = some (some (.ref p))) (hp : H p = some (.lst us)) (er : dss[n]? = some row) (eq : us[n]? = some (.ref q)) 
    (P : Post (g.pin [h, i] (σ.set h (some (.ref q)))) ((env.set h (some (.own (.list row)))).set i none) (σ.set h (some (.ref q))) H Mu env3 σ3 H3 M3) (e3 : env3[h]? = some (some (.own (.list row')))) (pg : ∀ k ∈ g.pins, (σ.set h (some (.ref q)))[k]? = g.st0[k]?) (np : h ∉ g.pins) :
    Post g env σ H Mu ((env3.set h none).set i (some (.own2 (dss.set n row')))) σ3 H3 M3 := by
  obtain ⟨u, es2, hs⟩ := st.sl i _ e
  rw [es] at es2
  cases es2
  obtain ⟨p', us', z, m, hpp, nd, npu, rows⟩ := hs
  cases z
  rw [hp] at hpp
  cases hpp
  obtain ⟨q', ws, eq2, mq, hq, rq⟩ := rows.at_ er
  rw [eq] at eq2
  cases eq2
  have hlσ : h < σ.length := by rw [← st.len]; exact hh
  -- the slots, behind
  have s3h : σ3[h]? = some (some (.ref q)) := (P.st.pin h (by simp)).trans (List.getElem?_set_self hlσ)
  have s3i : σ3[i]? = some (some (.ref p)) := (P.st.pin i (by simp)).trans ((List.getElem?_set_ne hi).trans es)
  obtain ⟨w, e5, h5⟩ := P.st.sl h _ e3
  rw [s3h] at e5
  cases e5
  obtain ⟨q2, ws', z, mq3, hq3, rq3⟩ := h5
  cases z
  have oq : OwnAt H (.own2 dss) (.ref p) q := .inr ⟨p, us, rfl, hp, List.mem_of_getElem? eq⟩
  have npq : p ≠ q := fun z => npu (by rw [z]; exact List.mem_of_getElem? eq)
  -- what the table owned, but for the row, is owned by no slot
  have no : ∀ a, OwnAt H (.own2 dss) (.ref p) a → a ≠ q → ¬ Own H ((env.set h (some (.own (.list row)))).set i none) (σ.set h (some (.ref q))) a := fun a oa ne z => by
    obtain ⟨j, s, v, ej, sj, oj⟩ := z
    rcases getset ej with ⟨_, _, e'⟩ | ⟨nei, ej'⟩
    · cases e'
    · rcases getset ej' with ⟨rfl, _, e'⟩ | ⟨neh, ej''⟩
      · have e2 : s = .own (.list row) := Option.some.inj e'
        subst e2
        rw [List.getElem?_set_self hlσ] at sj
        have ev : V.ref q = v := Option.some.inj (Option.some.inj sj)
        subst ev
        have ea : V.ref q = .ref a := oj
        cases ea
        exact ne rfl
      · rw [List.getElem?_set_ne (Ne.symm neh)] at sj
        exact nei (st.inj j i _ _ _ _ a ej'' e sj es oj oa)
  have hold : ∀ a, OwnAt H (.own2 dss) (.ref p) a → a ≠ q → Mu a → M3 a ∧ H3 a = H a := fun a oa ne ma => P.fr.b a ma (no a oa ne)
  obtain ⟨mp3, hp3⟩ := hold p (.inl rfl) npq m
  have rows3 : ∀ (us' : List V) (dss' : List (List D)) (k : Nat), us'.Nodup → (∀ x ∈ us', x ∈ us) → us'[k]? = some (.ref q) → Rows g.K H Mu us' dss' → Rows g.K H3 M3 us' (dss'.set k row') := by
    have other : ∀ (us' : List V) (dss' : List (List D)), (∀ x ∈ us', x ∈ us) → V.ref q ∉ us' → Rows g.K H Mu us' dss' → Rows g.K H3 M3 us' dss' := by
      intro us' dss' hm hn r
      induction r with
      | nil => exact .nil
      | cons ma ha ra t ih =>
        rename_i a ws2 us2 ds2 dss2
        have ne : a ≠ q := fun z => hn (by rw [z]; exact List.mem_cons_self ..)
        obtain ⟨m3, h3⟩ := hold a (.inr ⟨p, us, rfl, hp, hm _ (List.mem_cons_self ..)⟩) ne ma
        exact .cons m3 (h3.trans ha) (ra.up P.fr.grows) (ih (fun x hx => hm x (List.mem_cons_of_mem _ hx)) fun hx => hn (List.mem_cons_of_mem _ hx))
    intro us' dss' k nd' hm hk r
    induction r generalizing k with
    | nil => simp at hk
    | cons ma ha ra t ih =>
      rename_i a ws2 us2 ds2 dss2
      obtain ⟨n1, n2⟩ := List.nodup_cons.mp nd'
      cases k with
      | zero =>
        have e' := hk
        simp only [List.getElem?_cons_zero, Option.some.injEq, V.ref.injEq] at e'
        subst e'
        exact .cons mq3 hq3 rq3 (other _ _ (fun x hx => hm x (List.mem_cons_of_mem _ hx)) n1 t)
      | succ k =>
        rw [List.getElem?_cons_succ] at hk
        have ne : a ≠ q := fun z => n1 (by rw [z]; exact List.mem_of_getElem? hk)
        obtain ⟨m3, h3⟩ := hold a (.inr ⟨p, us, rfl, hp, hm _ (List.mem_cons_self ..)⟩) ne ma
        exact .cons m3 (h3.trans ha) (ra.up P.fr.grows) (ih k n2 (fun x hx => hm x (List.mem_cons_of_mem _ hx)) hk)
  have hs3 : SlOk g H3 M3 (.ref p) (.own2 (dss.set n row')) := ⟨p, us, rfl, mp3, hp3.trans hp, nd, npu, rows3 us dss n nd (fun _ z => z) eq rows⟩
  have S3 : Sta g env3 σ3 H3 M3 := P.st.unpin pg
  have at3 : ∀ a, OwnAt H3 (.own2 (dss.set n row')) (.ref p) a → OwnAt H (.own2 dss) (.ref p) a := fun a oa => by
    rcases oa with oa | ⟨r', us2, ev, hr, ha⟩
    · exact .inl oa
    · cases ev
      rw [hp3] at hr
      exact .inr ⟨p, us2, rfl, hr, ha⟩
  have own_was : ∀ a, OwnAt H (.own2 dss) (.ref p) a → H a ≠ none := fun a oa => (st.own_some ⟨i, _, _, e, es, oa⟩).1
  have no3 : ∀ a, OwnAt H3 (.own2 (dss.set n row')) (.ref p) a → ¬ Own H3 (env3.set h none) σ3 a := fun a oa z => by
    have oa' := at3 a oa
    obtain ⟨z1, z2⟩ := Own.of_set_none (g := g) (Mu := M3) z
    have na : ¬ a = q := fun ea => by
      subst ea
      exact z2 _ _ e3 S3 s3h rfl
    rcases P.sub a z1 with y | y
    · exact no a oa' na y
    · exact own_was a oa' y
  obtain ⟨S4, ow⟩ := (S3.drop h).putSame s3i hs3 no3
  have sub2 : ∀ a, Own H ((env.set h (some (.own (.list row)))).set i none) (σ.set h (some (.ref q))) a → Own H env σ a := fun a oa => by
    obtain ⟨j, s, v, ej, sj, oj⟩ := oa
    rcases getset ej with ⟨_, _, e'⟩ | ⟨nei, ej'⟩
    · cases e'
    · rcases getset ej' with ⟨rfl, _, e'⟩ | ⟨neh, ej''⟩
      · have e2 : s = .own (.list row) := Option.some.inj e'
        subst e2
        rw [List.getElem?_set_self hlσ] at sj
        have ev : V.ref q = v := Option.some.inj (Option.some.inj sj)
        subst ev
        have ea : V.ref q = .ref a := oj
        cases ea
        exact ⟨i, _, _, e, es, oq⟩
      · rw [List.getElem?_set_ne (Ne.symm neh)] at sj
        exact ⟨j, s, v, ej'', sj, oj⟩
  refine ⟨S4, P.fr.more sub2, fun a oa => ?_⟩
  rcases ow a oa with y | y
  · rcases P.sub a (Own.of_set_none (g := g) (Mu := M3) y).1 with y | y
    · exact .inl (sub2 a y)
    · exact .inr y
  · exact .inl ⟨i, _, _, e, es, at3 a y⟩
theorem s_lend {h i : Nat} {x y : Str} {p1 p2 : Pos} (k : Ctx X g W) (hh : X.N[h]? = some x) (hx : Loc X.env.scope x) (hf : X.fn x = true ∨ X.env.scope.names.lookup x = some .local) (hi : X.N[i]? = some y) (hv : Vis X.env.scope y) (hd : (y == ("__debug__" : Str)) = false) (hcd : (y == ("__classdict__" : Str)) = false) (hne : h ≠ i)
    (hsw : swapsWith (.Subscript (.Name y p1) eb p2) (some (.Name x p')) pos.line X.env = pure false) (hp : plainIx eb = true) (hb : PE X eb (semP g sg call W b)) (hr : ∀ σ0 : L2.St, PSs X rest (semS (g.pin [h, i] σ0) sg call W body)) :
    PSs X (.Assign [.Name x p'] (.Subscript (.Name y p1) eb p2) pos :: rest) (semS g sg call W (.lend h i b body)) := by
  have o := ix_list (X := X)
  rw [k.K] at o
  have hr2 : PSs X rest (fun D σ H => ∃ σ0, semS (g.pin [h, i] σ0) sg call W body D σ H) := ⟨fun pins s σ H D I w => by
    obtain ⟨σ0, w⟩ := w
    exact (hr σ0).run pins s σ H D I w⟩
  refine PSs.imp (fun D σ H hq => ?_) (pss_cons (ps_set k.nd hh hx (pe_ix o (pe_var hi hv hd hcd) hb (plain_ix hp)) hsw hf) hr2)
  obtain ⟨env, Mu, st, hw⟩ := hq
  simp only [den, wpR_bind] at hw
  obtain ⟨s1, e1, hw⟩ := wpR_getS.mp hw
  obtain ⟨u1, es, _⟩ := st.sl i s1 e1
  refine ⟨u1, es, ?_⟩
  show semP g sg call W b σ H _
  cases s1 with
  | own2 dss1 =>
    refine semP_of st hw (fun _ _ x => x) fun t env1 v H1 M1 P1 o1 hw => ?_
    obtain ⟨kx, rfl, hw⟩ := intOf_ok P1.st o1.ok hw
    obtain ⟨s0, e0, hw⟩ := wpR_getS.mp hw
    cases s0 with
    | own2 dss =>
      simp only [wpR_bind] at hw
      obtain ⟨n, en, hw⟩ := wpR_lift.mp hw
      obtain ⟨row, er, hw⟩ := wpR_lift.mp hw
      obtain ⟨np, hl, hw⟩ := store_use hw
      obtain ⟨u, es2, hs0⟩ := P1.st.sl i _ e0
      rw [es] at es2
      have eu : u1 = u := Option.some.inj (Option.some.inj es2)
      subst eu
      obtain ⟨p, us, rfl, m, hpp, nd, npu, rows⟩ := hs0
      have P1s := P1.st
      obtain ⟨q, ws, eq, hq, rq, L⟩ := Post.lend P1s np hl hne e0 es hpp er
      refine ⟨p, us, kx, .ref q, rfl, rfl, .of hpp, ?_, ?_⟩
      · unfold atI
        rw [rows.length, en]
        exact eq
      have hw : wpR ((den sg call (h :: i :: g.pins) body).S ((env1.set h (some (.own (.list row)))).set i none)) _ _ := hw
      refine ⟨σ.set h (some (.ref q)), _, M1, L.st.pinned, ?_⟩
      have lift : ∀ {env' : Env} {σ' : L2.St} {H' : Hp} {M' : Addr → Prop}, Post (g.pin [h, i] (σ.set h (some (.ref q)))) ((env1.set h (some (.own (.list row)))).set i none) (σ.set h (some (.ref q))) H1 M1 env' σ' H' M' → Post g ((env1.set h (some (.own (.list row)))).set i none) (σ.set h (some (.ref q))) H1 M1 env' σ' H' M' := fun P => ⟨P.st.unpin L.st.pin, P.fr, P.sub⟩
      refine wpR_mono hw (fun f e3 hw => ?_) fun x e3 hx cls d σ' H' Mu' xo P => ?_
      · cases f with
        | nx =>
          intro σ3 H3 M3 P3
          simp only [wpR_bind] at hw
          obtain ⟨s3, e3', hw⟩ := wpR_getS.mp hw
          cases s3 with
          | own d3 =>
            cases d3 with
            | list row' =>
              have il : i < env1.length := (List.getElem?_eq_some_iff.mp e0).1
              have B := Post.unlend P1s hne hl il e0 es hpp er eq P3 e3' L.st.pin np
              exact hw σ3 H3 M3 (P1.trans st B)
            | _ => exact hw.elim
          | _ => exact hw.elim
        | bk => exact hw.elim
        | ct => exact hw.elim
        | rt s => exact hw.elim
      · exact hx cls d σ' H' Mu' xo (P1.trans st (L.trans P1s (lift P)))
    | _ => exact hw.elim
  | _ => exact hw.elim
end
end Ev
end
section
namespace Ev
open PySem PySem.Spec PyProof.Rows L2
section
variable {prog : Program} {w : World} {A : Around} {E : Value → Shared → Prop} {s : Shared}
/-- a list is filled by a reversed one -/
theorem lr_fill {it l S : Addr} {items : Array Value} {R : Result → Shared → Prop} (hh : A.handled = none) (hit : s.heap.IsRevIter it l ((items.size : Int) - 1)) (hl : s.heap.IsList l items) (hne : l ≠ it) (hn : items.size ≤ sizeLine) (hSi : S ≠ it) (hSl : S ≠ l)
    (new : s.heap.get? S = some { cls := .type "list", data := .seq #[] })
    (k : ∀ (s' : Shared) (acc : Array Value) (c : Nat), Moved (S :: [it]) (fun a b => b = a) s s' → s'.heap.get? S = some { cls := .type "list", dict := none, data := .seq acc c, slots := #[] } → ItemsOf (fun i v => items[items.size - 1 - i]? = some v) acc items.size → R (.ok (.ret .none)) s') :
    wpAny (model prog w) A.in1 (Builtin.«list.__init__» ⟨[.ref S, .ref it], []⟩)
      (fun fin s' => match fin with | .done f => R (.ok f) s' | .again c' => c'.quiet = true ∧ codeAny (model prog w) A c' R s') (fun e s' => R (.error e) s') s := by
  have W := (Walks.listRev (prog := prog) (w := w) (A := A.in1) hh it l hne items).toS
  have hS2 : (s.heap.update S (Obj.mapSeq (fun _ => (#[] : Array Value)))).get? S = _ := Heap.get?_update_self (Obj.mapSeq (fun _ => (#[] : Array Value))) new rfl
  have keep1 : ∀ b u, b ≠ S → s.heap.get? b = some u → (s.heap.update S (Obj.mapSeq (fun _ => (#[] : Array Value)))).get? b = some u := fun b u hb e => (Heap.get?_update_other _ _ (Ne.symm hb)).trans e
  show wpAny _ A.in1 (do
    let old ← Builtin.List.listItems (.ref S)
    Builtin.List.listUpdate (.ref S) (fun _ => #[])
    letGo old.toList.reverse
    Builtin.List.listExtendWith (.ref S) (.ref it) .none) _ _ s
  unfold Builtin.List.listItems
  refine wpAny_bind (wpAny_bind (wpAny_seqItems new rfl (wpAny_pure ?_)))
  refine wpAny_bind (show wpAny _ A.in1 (updateSeq S fun _ => #[]) _ _ s from wpAny_updateSeq new rfl ?_)
  refine wpAny_bind (wpAny_letGo ?_)
  generalize hg : s.heap.update S (Obj.mapSeq (fun _ => (#[] : Array Value))) = h1 at hS2 keep1
  have hit1 : h1.IsRevIter it l ((items.size : Int) - 1) := hit.at fun u e => keep1 it u (Ne.symm hSi) e
  have hl1 : h1.IsList l items := hl.at fun u e => keep1 l u (Ne.symm hSl) e
  have ty : ({ s with heap := h1 } : Shared).TypeIs (.ref it) "list_reverseiterator" := Heap.IsRevIter.typeIs (s := { s with heap := h1 }) hit1
  have other : Builtin.List.listSameRef (.ref S) (.ref it) = false := by simp [Builtin.List.listSameRef, hSi]
  unfold Builtin.List.listExtendWith
  refine wpAny_bind (wpAny_typeOf ty ?_)
  rw [if_neg (by rw [other]; decide)]
  refine wpAny_bind (wpAny_pyIter_revIter (s := { s with heap := h1 }) hit1 (wpAny_bind (wpAny_holding ?_)))
  unfold Builtin.List.listLengthHint
  refine wpAny_bind (wpAny_specialOf ty RT.nolen_lri ?_)
  show wpAny _ A.in1 (specialOf (Value.ref it) (Str.ofString "__length_hint__") >>= _) _ _ _
  refine wpAny_bind (wpAny_specialOf ty RT.hint_lri ?_)
  generalize named : ("list_reverseiterator.__length_hint__" : String) = nm
  wp_delta
  rw [show splitId nm = some ("list_reverseiterator", "__length_hint__") from by subst named; decide +kernel]
  subst named
  refine wpAny_bind (wpAny_isInstance (b := true) ty (by rw [isSubtype_type]; kernel_rfl) (wpAny_pure ?_))
  rw [if_neg (by decide)]
  have hSf : S ∉ [it, l] := by
    simp only [List.mem_cons, List.not_mem_nil, or_false, not_or]
    exact ⟨hSi, hSl⟩
  have z0 : ((items.size : Nat) : Int) - 1 - ((0 : Nat) : Int) = (items.size : Int) - 1 := by omega
  refine wpAny_pure ⟨plainId_quiet F.plain_extend_loop _, codeAny_extend_loopS W hn _ hSf _ items.size 0 _ _ _ rfl (Nat.zero_le _) ⟨Nat.zero_le _, by rw [z0]; exact hit1, hl1⟩ hS2 (ItemsOf.nil _) fun s' acc c mv hS' ac => ?_⟩
  refine k s' acc c ⟨fun b u hb e => mv.heap b u hb (keep1 b u (fun z => hb (by rw [z]; exact List.mem_cons_self ..)) e), mv.gens, mv.drawn, mv.os, mv.toks⟩ hS' ac
/-- list(a reversed list) -/
theorem call_lr {it l : Addr} {items : Array Value} {Q : Value → Shared → Prop} (hh : A.handled = none) (hit : s.heap.IsRevIter it l ((items.size : Int) - 1)) (hl : s.heap.IsList l items) (hne : l ≠ it) (hn : items.size ≤ sizeLine)
    (k : ∀ (h' : Heap) (tk : Nat) (acc : Array Value) (c : Nat), (∀ b u, b ≠ it → s.heap.get? b = some u → h'.get? b = some u) → h'.get? s.heap.objs.size = some { cls := .type "list", dict := none, data := .seq acc c, slots := #[] } → ItemsOf (fun i v => items[items.size - 1 - i]? = some v) acc items.size →
      Q (.ref s.heap.objs.size) { s with heap := h', toks := tk }) :
    wpAny (model prog w) A (call (.type "list") [.ref it]) Q E s := by
  obtain ⟨oi, hoi, _⟩ := id hit
  obtain ⟨ol, hol, _⟩ := id hl
  refine callType_codes (Q₁ := fun obj s₁ => obj = .ref s.heap.objs.size ∧ s₁ = { s with heap := s.heap.push { cls := .type "list", data := .seq #[] } }) F.called_list (F.typeCall_list_1 _) F.entry_list_init (code_list_new _ ⟨rfl, rfl⟩) fun obj s₁ h₁ => ?_
  obtain ⟨rfl, rfl⟩ := h₁
  have new : (s.heap.push { cls := .type "list", data := .seq #[] }).get? s.heap.objs.size = some { cls := .type "list", data := .seq #[] } := Heap.get?_push_size _ rfl
  refine ⟨⟨_, new, rfl⟩, F.args_list_init_2 _ _, lr_fill (s := { s with heap := s.heap.push { cls := .type "list", data := .seq #[] } }) (A := A.in1) hh (hit.at fun u e => Heap.get?_push_of_some _ e) (hl.push _) hne hn (Nat.ne_of_gt (Heap.lt_size hoi)) (Nat.ne_of_gt (Heap.lt_size hol)) new fun s' acc c mv hS' ac => ?_⟩
  refine ⟨rfl, ?_⟩
  have e := mv.eq_with
  rw [e]
  refine k s'.heap s'.toks acc c (fun b u hb e => mv.heap b u (fun z => ?_) (Heap.get?_push_of_some _ e)) hS' ac
  rcases List.mem_cons.mp z with z | z
  · rw [z] at e
    exact absurd (Heap.lt_size e) (Nat.lt_irrefl _)
  · exact hb (List.mem_singleton.mp z)
end
def tLr (K : PySem.W.Frag) (te : TE) : TE := fun σ H Q => te σ H fun v H1 => ∃ (a : Addr) (xs : List V), v = .ref a ∧ SqL K H1 a xs ∧ ∀ q, H1 q = none → Q (.ref q) (upd H1 q (.lst xs.reverse))
theorem pe_lr {X : Cx} {e : Expr} {te : TE} {p p2 pos pos2 : Pos} (hc : X.calm = true) (hg : Gl X "list") (hm : X.mg "list" = none) (hg2 : Gl X "reversed") (hm2 : X.mg "reversed" = none) (he : PE X e te)
    (hs : starEach [e] X.env = (false, eval e X.env) :: starEach [] X.env) (hs2 : starEach [.Call (.Name "reversed" p2) [e] [] pos2] X.env = (false, eval (.Call (.Name "reversed" p2) [e] [] pos2) X.env) :: starEach [] X.env) :
    PE X (.Call (.Name "list" p) [.Call (.Name "reversed" p2) [e] [] pos2] [] pos) (tLr X.K te) := by
  refine ⟨fun pins s σ H Q I h => Call_ (ld_blt I hg hm boot_list (PyProof.Rows.callWith_type1 (args_cons (Call_ (ld_blt I hg2 hm2 PyProof.Rows.boot_reversed (PyProof.Rows.callWith_type1 (args_cons (thn (he.run pins s σ H _ I h) fun u s1 ⟨v, H1, I1, r1, q1⟩ => args_nil ?_) hs) hs rfl))) hs2) hs2 rfl))⟩
  obtain ⟨a, xs, ev, hq, q⟩ := q1
  subst ev
  obtain rfl : u = Value.ref a := r1
  obtain ⟨its, rv, pl, hz⟩ := I1.list hq
  refine call_reversed_list pl.isList (args_nil ?_)
  have il := pl.isList
  obtain ⟨ol, hol, _⟩ := id il
  obtain ⟨f0, f1, f2, f3, f4, f5⟩ := I1.fpOk (H' := H1) (b := s1.heap.objs.size) (Nat.le_refl _) (I1.hok.fresh (Nat.le_refl _))
  have I2 : Inv X pins σ H1 { s1 with heap := s1.heap.push (revObj a ((its.toArray.size : Int) - 1)) } := I1.kept (t' := s1.toks) fun b o e => Heap.get?_push_of_some _ e
  have hn : its.toArray.size ≤ sizeLine := by rw [List.size_toArray, ← rv.length]; exact hz
  refine call_lr (s := { s1 with heap := s1.heap.push (revObj a ((its.toArray.size : Int) - 1)) }) (I1.ok.hd hc) ⟨_, Heap.get?_push_size _ rfl, rfl, rfl⟩ (il.push _) (Nat.ne_of_lt (Heap.lt_size hol)) hn fun h' tk acc c hk hL ac => ?_
  have fp : ∀ b ∈ [s1.heap.objs.size], FpOk X pins H1 b := fun b hb => by
    rw [List.mem_singleton.mp hb]
    exact ⟨f0, f1, f2, f3, f4, f5⟩
  have new : ObjOk X.prog X.w (upd H1 (s1.heap.push (revObj a ((its.toArray.size : Int) - 1))).objs.size (.lst xs.reverse)) h' (s1.heap.push (revObj a ((its.toArray.size : Int) - 1))).objs.size (.lst xs.reverse) :=
    ⟨by rw [List.length_reverse]; exact hz, acc.toList, c, RT.vals_rev rv ac, by rw [Array.toArray_toList]; exact hL⟩
  have I3 := I2.turnedNew (t' := tk) (h' := h') (ch := [s1.heap.objs.size]) (fun b o hb e => hk b o (fun z => hb (by rw [z]; exact List.mem_cons_self ..)) e) fp (Nat.le_refl _) new
  exact ⟨.ref (s1.heap.push (revObj a ((its.toArray.size : Int) - 1))).objs.size, _, I3, rfl, q _ (I2.hok.fresh (Nat.le_refl _))⟩
end Ev
end
section
namespace Ev
open PySem PySem.Spec PyProof.Rows L2
def Ty.name : Ty → Str
  | .int => "int" | .bool => "bool" | .tuple => "tuple" | .list => "list" | .str => "str"
def Ty.id : Ty → String
  | .int => "int" | .bool => "bool" | .tuple => "tuple" | .list => "list" | .str => "str"
theorem Ty.boot (t : Ty) : bootBuiltins t.name = some (.type t.id) := by cases t <;> decide +kernel
theorem Ty.nn (t : Ty) : t.name ≠ "__name__" := by cases t <;> decide
theorem Ty.nd (t : Ty) : (t.name == ("__debug__" : Str)) = false := by cases t <;> decide
/-- what type data has -/
def tyN : D → Option String
  | .none => some "NoneType"
  | .bool _ => some "bool"
  | .int _ => some "int"
  | .str _ => some "str"
  | .list _ => some "list"
  | .tuple _ => some "tuple"
  | .dict _ => none
theorem isi_kit (K : PySem.W.Frag) (t : Ty) {d : D} {T : String} (h : tyN d = some T) : PySem.W.kitOne K (.type T) (.type t.id) = some (isiD t d) := by
  refine kit_ty ?_
  cases d <;> cases h <;> cases t <;> first
    | exact (show kitB _ _ = some true from by decide +kernel)
    | exact (show kitB _ _ = some false from by decide +kernel)
section
variable {X : Cx} {g : Gx} {sg : Sig} {call : Call} {W : WX} {a b c as tg it cond body s r : C} {ea eb ec tgx : Expr} {es elts : List Expr} {pos p' : Pos} {ss : Stmt} {rest ba bb : List Stmt}
variable {env env1 env2 env3 : Env} {σ σ1 σ2 σ3 : L2.St} {H H1 H2 H3 : Hp} {Mu M1 M2 M3 : Addr → Prop} {v w : V} {De : Ends}
theorem SqP.ty {K : PySem.W.Frag} {G : Hp} {p : Addr} {xs : List V} (h : SqP K G p xs) : TyX K G (.ref p) (.type "list") := by
  rcases h with h | ⟨its, n, e, _, _⟩
  · rcases h with h | ⟨o, h⟩
    · exact .base (.lst h)
    · exact .base (.frz h)
  · exact .kList e rfl
theorem SqT.ty {K : PySem.W.Frag} {G : Hp} {p : Addr} {xs : List V} (h : SqT K G p xs) : TyX K G (.ref p) (.type "tuple") := by
  rcases h with h | ⟨o, its, n, e, hc, hd, hn, hl⟩
  · rcases h with h | ⟨o, h⟩
    · exact .base (.tup h)
    · exact .fTuple h
  · exact .kTuple e hc
theorem Rp.ty {K : PySem.W.Frag} {G : Hp} {v : V} {d : D} (h : Rp K G v d) : ∃ T, tyN d = some T ∧ TyX K G v (.type T) := by
  cases h with
  | non => exact ⟨_, rfl, .base .non⟩
  | bl b => exact ⟨_, rfl, .base (.bl b)⟩
  | int i => exact ⟨_, rfl, .base (.int i)⟩
  | str x => exact ⟨_, rfl, .base (.str x)⟩
  | lst hs _ => exact ⟨_, rfl, hs.ty⟩
  | tup hs _ => exact ⟨_, rfl, SqT.ty hs⟩
theorem boot_isi : bootBuiltins "isinstance" = some (.builtin "isinstance") := by decide +kernel
theorem s_isi {t : Ty} {p p2 : Pos} (k : Ctx X g W) (hg : Gl X "isinstance") (hm : X.mg "isinstance" = none) (hg2 : Gl X t.name) (hm2 : X.mg t.name = none) (hs : noStar ea = true) (ha : PE X ea (semP g sg call W a)) :
    PE X (.Call (.Name "isinstance" p) [ea, .Name t.name p2] [] pos) (semE g sg call W (.isi a t)) := by
  have o := call_isi (X := X)
  rw [k.K] at o
  have base := pe_callB (p := p) (pos := pos) o hg hm boot_isi (pa_cons ha (pa_cons (pe_bltn (pos := p2) (v := V.ty t.id) hg2 hm2 t.boot rfl t.nn t.nd) pa_nil rfl) (star1 hs [.Name t.name p2] X.env)) (by decide) (by decide) (star1 hs [.Name t.name p2] X.env) rfl
  refine PE.imp (fun σ H Q hq => ?_) base
  obtain ⟨env, Mu, st, hw⟩ := hq
  simp only [den, ofE, wpR_bind] at hw
  refine semP_of st hw (fun _ _ x => x) fun t1 env1 v1 H1 M1 P1 o1 hw => ?_
  obtain ⟨dx, nx, hw⟩ := look_ok P1.st o1.ok hw
  obtain ⟨T, eT, ty⟩ := nx.rp.ty
  exact ⟨v1, .ty t.id, .type T, .type t.id, _, rfl, .ty _, ty, isi_kit g.K t eT, hw _ H1 M1 P1 (.bl _) trivial⟩
theorem s_lrv {p p2 pos2 : Pos} (k : Ctx X g W) (hg : Gl X "list") (hm : X.mg "list" = none) (hg2 : Gl X "reversed") (hm2 : X.mg "reversed" = none) (hs : noStar ea = true) (ha : PE X ea (semP g sg call W a)) :
    PE X (.Call (.Name "list" p) [.Call (.Name "reversed" p2) [ea] [] pos2] [] pos) (semE g sg call W (.lrv a)) := by
  have o := pe_lr (p := p) (p2 := p2) (pos := pos) (pos2 := pos2) k.calm hg hm hg2 hm2 ha (star1 hs [] X.env) rfl
  rw [k.K] at o
  refine PE.imp (fun σ H Q hq => ?_) o
  obtain ⟨env, Mu, st, hw⟩ := hq
  simp only [den, ofE, wpR_bind] at hw
  refine semP_of st hw (fun _ _ x => x) fun t1 env1 v1 H1 M1 P1 o1 hw => ?_
  obtain ⟨dx, nx, hw⟩ := look_ok P1.st o1.ok hw
  cases dx with
  | list xs =>
    obtain ⟨q, us, rfl, hp, r⟩ := nx.list
    exact ⟨q, us, rfl, hp.l, fun q' n => Ans.list (ds := xs.reverse) hw st P1 r.rev q' n⟩
  | _ => exact hw.elim
theorem rg_all {K : PySem.W.Frag} {G : Hp} {f : Nat → Int} : ∀ l : List Nat, RpAll K G (l.map fun k => V.int (f k)) (l.map fun k => PyData.int (f k))
  | [] => .nil
  | _ :: l => .cons (.int _) (rg_all l)
theorem lim_rg {n : Nat} (h : n ≤ lim) : n ≤ 2 ^ 24 := Nat.le_trans h (by decide)
theorem s_lrg {p p2 pos2 : Pos} (k : Ctx X g W) (hg : Gl X "list") (hm : X.mg "list" = none) (hg2 : Gl X "range") (hm2 : X.mg "range" = none) (hs : noStar ea = true) (hs2 : noStar eb = true) (ha : PE X ea (semP g sg call W a)) (hb : PE X eb (semP g sg call W b)) :
    PE X (.Call (.Name "list" p) [.Call (.Name "range" p2) [ea, eb] [] pos2] [] pos) (semE g sg call W (.lrg a b)) := by
  refine PE.imp (fun σ H Q hq => ?_) (pe_listRg (p := p) (pos := pos) k.calm hg hm (prg_2 (p := p2) (pos := pos2) hg2 hm2 ha hb (star1 hs [eb] X.env) (star1 hs2 [] X.env) (by rw [star1 hs2]; rfl)) rfl)
  obtain ⟨env, Mu, st, hw⟩ := hq
  simp only [den, ofE, wpR_bind] at hw
  refine semP_of st hw (fun _ _ x => x) fun t1 env1 v1 H1 M1 P1 o1 hw => ?_
  refine semP_of P1.st hw (ExP.step st P1) fun t2 env2 v2 H2 M2 P2 o2 hw => ?_
  have P := P1.trans st P2
  obtain ⟨i, rfl, hw⟩ := intOf_ok P2.st (o1.up P2.fr.grows).ok hw
  obtain ⟨j, rfl, hw⟩ := intOf_ok P2.st o2.ok hw
  split at hw
  · rename_i c
    obtain ⟨c1, c2⟩ := okI_iff c.1
    obtain ⟨c3, c4⟩ := okI_iff c.2.1
    exact ⟨i, j, rfl, rfl, ⟨c1, c2, c3, c4, lim_rg c.2.2⟩, fun q n => Ans.list (ds := rangeD i (j - i).toNat) hw st P (rg_all _) q n⟩
  · exact hw.elim
theorem s_lr1 {p p2 pos2 : Pos} (k : Ctx X g W) (hg : Gl X "list") (hm : X.mg "list" = none) (hg2 : Gl X "range") (hm2 : X.mg "range" = none) (hs : noStar ea = true) (ha : PE X ea (semP g sg call W a)) :
    PE X (.Call (.Name "list" p) [.Call (.Name "range" p2) [ea] [] pos2] [] pos) (semE g sg call W (.lr1 a)) := by
  refine PE.imp (fun σ H Q hq => ?_) (pe_listRg (p := p) (pos := pos) k.calm hg hm (prg_1 (p := p2) (pos := pos2) hg2 hm2 ha (star1 hs [] X.env)) rfl)
  obtain ⟨env, Mu, st, hw⟩ := hq
  simp only [den, ofE, wpR_bind] at hw
  refine semP_of st hw (fun _ _ x => x) fun t1 env1 v1 H1 M1 P1 o1 hw => ?_
  obtain ⟨j, rfl, hw⟩ := intOf_ok P1.st o1.ok hw
  split at hw
  · rename_i c
    obtain ⟨c3, c4⟩ := okI_iff c.1
    refine ⟨j, rfl, ⟨by decide, by decide, c3, c4, ?_⟩, fun q n => Ans.list (ds := rangeD 0 j.toNat) hw st P1 ?_ q n⟩
    · rw [Int.sub_zero]
      exact lim_rg c.2
    · have h := rg_all (K := g.K) (G := hid H1 M1) (f := fun k => 0 + (k : Int)) (List.range (j - 0).toNat)
      rw [Int.sub_zero] at h
      unfold rgV
      rw [Int.sub_zero]
      exact h
  · exact hw.elim
theorem s_popE {i : Nat} {x : Str} {p1 p2 p3 : Pos} (k : Ctx X g W) (hi : X.N[i]? = some x) (hv : Vis X.env.scope x) (hd : (x == ("__debug__" : Str)) = false) (hcd : (x == ("__classdict__" : Str)) = false) (hl : (p2.endLine == p3.line) = true) :
    PE X (.Call (.Attribute (.Name x p1) "pop" p2) [] [] p3) (semE g sg call W (.popE i)) := by
  have bm : PE X (.Call (.Attribute (.Name x p1) "pop" p2) [] [] p3) (tBM0 X.K "list" rPop (tVar i)) :=
    pe_bm0 PySem.F.plainAttrs_list PySem.F.slot_list_pop PySem.F.type_list_pop mt_pop (pe_var hi hv hd hcd) (by rfl) hl
  rw [k.K] at bm
  refine PE.imp (fun σ H Q hq => ?_) bm
  obtain ⟨env, Mu, st, hw⟩ := hq
  simp only [den, ofE, wpR_bind] at hw
  obtain ⟨s, e, hw⟩ := wpR_getS.mp hw
  cases s with
  | own dd =>
    cases dd with
    | list xs =>
      obtain ⟨p, us, es, m, hp, rr⟩ := ownL st e
      cases hx : xs.getLast? with
      | none =>
        simp only [hx] at hw
        exact hw.elim
      | some d =>
        simp only [hx] at hw
        rw [List.getLast?_eq_getElem?] at hx
        obtain ⟨y, hy, ry⟩ := rr.get hx
        rw [← rr.length] at hy
        have rd : RpAll g.K (hid H Mu) us.dropLast xs.dropLast := by
          rw [List.dropLast_eq_take, List.dropLast_eq_take, rr.length]
          exact rr.tk _
        have PW := Post.write st e es m hp rd
        exact ⟨_, es, .inl ⟨rfl, us, .inl (.inl hp)⟩, p, us, y, rfl, rfl, hp, hy, hw y _ Mu PW (Rp.up PW.fr.grows ry) trivial⟩
    | _ => exact hw.elim
  | _ => exact hw.elim

theorem downD_get {lo : Int} {n i : Nat} {d : D} (h : (downD lo n)[i]? = some d) : i < n ∧ d = .int (lo + (i : Int) * (-1)) := by
  unfold downD at h
  rw [List.getElem?_map] at h
  obtain ⟨k, e1, e2⟩ := Option.map_eq_some_iff.mp h
  obtain ⟨hk, e3⟩ := List.getElem?_eq_some_iff.mp e1
  rw [List.getElem_range] at e3
  rw [List.length_range] at hk
  subst e3
  exact ⟨hk, e2.symm⟩
theorem yields_down {lo : Int} {n : Nat} {G : Hp} : Yields g (Itc lo (-1) n) (downD lo n) G where
  step := fun H Mu e i d hd => by
    obtain ⟨hi, rfl⟩ := downD_get hd
    refine ⟨hi, fun x H1 hx => ?_⟩
    obtain ⟨rfl, rfl⟩ := hx
    exact ⟨.inl rfl, fun _ => .int _⟩
  stop := fun H Mu e i hi => by
    have : (downD lo n).length = n := by unfold downD; rw [List.length_map, List.length_range]
    show n ≤ i
    omega
theorem s_iR3 {p : Pos} (k : Ctx X g W) (hg : Gl X "range") (hm : X.mg "range" = none) (hs : noStar ea = true) (hs2 : noStar eb = true) (hs3 : noStar ec = true) (ha : PE X ea (semP g sg call W a)) (hb : PE X eb (semP g sg call W b)) (hc : PE X ec (semP g sg call W c)) :
    PI X tgx (.Call (.Name "range" p) [ea, eb, ec] [] pos) (semI g sg call W (.iR3 a b c)) := by
  have s3 := star1 hs3 [] X.env
  have s2 := star1 hs2 [ec] X.env
  refine PI.imp (fun σ H R hq => ?_) (pi_range3 hg hm (pa_cons ha (pa_cons hb (pa_cons hc pa_nil s3) s2) (star1 hs [eb, ec] X.env)) (star1 hs [eb, ec] X.env) (by rw [s2, s3]; rfl))
  obtain ⟨env, Mu, st, hw⟩ := hq
  simp only [den, wpR_bind] at hw
  refine semP_of st hw (fun _ _ x => x) fun t env1 v H1 M1 P1 o1 hw => ?_
  refine semP_of P1.st hw (ExP.step st P1) fun t2 env2 v2 H2 M2 P2 o2 hw => ?_
  have P12 := P1.trans st P2
  refine semP_of P2.st hw (ExP.step st P12) fun t3 env3 v3 H3 M3 P3 o3 hw => ?_
  obtain ⟨i, rfl, hw⟩ := intOf_ok P3.st ((o1.up P2.fr.grows).up P3.fr.grows).ok hw
  obtain ⟨j, rfl, hw⟩ := intOf_ok P3.st (o2.up P3.fr.grows).ok hw
  obtain ⟨l, rfl, hw⟩ := intOf_ok P3.st o3.ok hw
  split at hw
  · rename_i q
    obtain ⟨c1, c2⟩ := okI_iff q.1
    obtain ⟨c3, c4⟩ := okI_iff q.2.1
    have e := q.2.2
    subst e
    exact ⟨i, j, -1, _, rfl, .neg c1 c2 c3 c4, hw _ H3 M3 (P12.trans st P3) yields_down⟩
  · exact hw.elim
theorem s_iRR {p p2 pos2 : Pos} (k : Ctx X g W) (hg : Gl X "reversed") (hm : X.mg "reversed" = none) (hg2 : Gl X "range") (hm2 : X.mg "range" = none) (hs : noStar ea = true) (ha : PE X ea (semP g sg call W a)) :
    PI X tgx (.Call (.Name "reversed" p) [.Call (.Name "range" p2) [ea] [] pos2] [] pos) (semI g sg call W (.iRR a)) := by
  refine PI.imp (fun σ H R hq => ?_) (pi_revR hg hm (prg_1 (p := p2) (pos := pos2) hg2 hm2 ha (star1 hs [] X.env)) rfl)
  obtain ⟨env, Mu, st, hw⟩ := hq
  simp only [den, wpR_bind] at hw
  refine semP_of st hw (fun _ _ x => x) fun t env1 v H1 M1 P1 o1 hw => ?_
  obtain ⟨n, rfl, hw⟩ := intOf_ok P1.st o1.ok hw
  split at hw
  · rename_i q
    obtain ⟨c1, c2⟩ := okI_iff q
    refine ⟨n, rfl, by decide, by decide, c1, c2, ?_⟩
    rw [Int.sub_zero, Int.zero_add]
    exact hw _ H1 M1 P1 yields_down
  · exact hw.elim
theorem zipD_get {xs ys : List D} {i : Nat} {d : D} (h : (zipD xs ys)[i]? = some d) : ∃ a b, xs[i]? = some a ∧ ys[i]? = some b ∧ d = .tuple [a, b] := by
  unfold zipD at h
  rw [List.getElem?_map] at h
  obtain ⟨p, e1, e2⟩ := Option.map_eq_some_iff.mp h
  obtain ⟨h1, h2⟩ := List.getElem?_zip_eq_some.mp e1
  exact ⟨_, _, h1, h2, e2.symm⟩
theorem zipD_len {xs ys : List D} {i : Nat} (h : (zipD xs ys).length ≤ i) : xs.length ≤ i ∨ ys.length ≤ i := by
  unfold zipD at h
  rw [List.length_map, List.length_zip] at h
  omega
theorem new_rp2 {T : Addr} {x y : V} {d e : D} (n : H T = none) (mh : ∀ p, Mu p → H p ≠ none) (r : Rp g.K (hid H Mu) x d) (r2 : Rp g.K (hid H Mu) y e) : Rp g.K (hid (upd H T (.tup [x, y])) Mu) (.ref T) (.tuple [d, e]) := by
  have nm : ¬ Mu T := fun z => mh T z n
  have gr := (Fr.newI (O := fun _ => False) (o := .tup [x, y]) mh n).grows
  exact .tup (.inl (.inl (hid_some.mpr ⟨nm, upd_same⟩))) (.cons (r.up gr) (.cons (r2.up gr) .nil))
theorem yields_zL {p q : Addr} {vs us : List V} {ds es : List D} {G : Hp} (h : SqL g.K G p vs) (r : RpAll g.K G vs ds) (h2 : SqL g.K G q us) (r2 : RpAll g.K G us es) : Yields g (Itz g.K p q) (zipD ds es) G where
  step := fun H Mu e i d hd => by
    obtain ⟨d0, d1, hd0, hd1, rfl⟩ := zipD_get hd
    obtain ⟨x, hx, rx⟩ := r.get hd0
    obtain ⟨y, hy, ry⟩ := r2.get hd1
    have hs : SqL g.K H p vs := Evl.ex_l (fun a o q => hid_le H Mu a o (e a o q)) h
    have hs2 : SqL g.K H q us := Evl.ex_l (fun a o q => hid_le H Mu a o (e a o q)) h2
    refine ⟨⟨vs, us, x, y, hs, hs2, hx, hy⟩, fun z H1 hz => ?_⟩
    obtain ⟨T, x', y', rfl, n, rfl, hx', hy'⟩ := hz
    obtain rfl : x = x' := Option.some.inj (hx.symm.trans (hx' vs hs))
    obtain rfl : y = y' := Option.some.inj (hy.symm.trans (hy' us hs2))
    exact ⟨.inr ⟨T, _, n, rfl⟩, fun mh => new_rp2 n mh (rx.up e) (ry.up e)⟩
  stop := fun H Mu e i hi => ⟨vs, us, Evl.ex_l (fun a o q => hid_le H Mu a o (e a o q)) h, Evl.ex_l (fun a o q => hid_le H Mu a o (e a o q)) h2, by
    rw [r.length, r2.length]
    exact zipD_len hi⟩
theorem yields_zT {p q : Addr} {vs us : List V} {ds es : List D} {G : Hp} (h : SqT g.K G p vs) (r : RpAll g.K G vs ds) (h2 : SqT g.K G q us) (r2 : RpAll g.K G us es) : Yields g (RZ.ItzT g.K p q) (zipD ds es) G where
  step := fun H Mu e i d hd => by
    obtain ⟨d0, d1, hd0, hd1, rfl⟩ := zipD_get hd
    obtain ⟨x, hx, rx⟩ := r.get hd0
    obtain ⟨y, hy, ry⟩ := r2.get hd1
    have hs : SqT g.K H p vs := Evl.ex_t (fun a o q => hid_le H Mu a o (e a o q)) h
    have hs2 : SqT g.K H q us := Evl.ex_t (fun a o q => hid_le H Mu a o (e a o q)) h2
    refine ⟨⟨vs, us, x, y, hs, hs2, hx, hy⟩, fun z H1 hz => ?_⟩
    obtain ⟨T, x', y', rfl, n, rfl, hx', hy'⟩ := hz
    obtain rfl : x = x' := Option.some.inj (hx.symm.trans (hx' vs hs))
    obtain rfl : y = y' := Option.some.inj (hy.symm.trans (hy' us hs2))
    exact ⟨.inr ⟨T, _, n, rfl⟩, fun mh => new_rp2 n mh (rx.up e) (ry.up e)⟩
  stop := fun H Mu e i hi => ⟨vs, us, Evl.ex_t (fun a o q => hid_le H Mu a o (e a o q)) h, Evl.ex_t (fun a o q => hid_le H Mu a o (e a o q)) h2, by
    rw [r.length, r2.length]
    exact zipD_len hi⟩
theorem s_iZp {p tpos : Pos} {kk : Nat} (k : Ctx X g W) (hg : Gl X "zip") (hm : X.mg "zip" = none) (hs : noStar ea = true) (hs2 : noStar eb = true) (ha : PE X ea (semP g sg call W a)) (hb : PE X eb (semP g sg call W b)) :
    PI X (.Tuple elts kk tpos) (.Call (.Name "zip" p) [ea, eb] [] pos) (semI g sg call W (.iZp a b)) := by
  have s2 := star1 hs2 [] X.env
  have o := RZ.pi_zipA (p := p) (pos := pos) (tpos := tpos) (elts := elts) (kk := kk) hg hm (pa_cons ha (pa_cons hb pa_nil s2) (star1 hs [eb] X.env)) (star1 hs [eb] X.env) (by rw [s2]; rfl)
  rw [k.K] at o
  refine PI.imp (fun σ H R hq => ?_) o
  obtain ⟨env, Mu, st, hw⟩ := hq
  simp only [den, wpR_bind] at hw
  refine semP_of st hw (fun _ _ x => x) fun t env1 v H1 M1 P1 o1 hw => ?_
  refine semP_of P1.st hw (ExP.step st P1) fun t2 env2 v2 H2 M2 P2 o2 hw => ?_
  have P12 := P1.trans st P2
  obtain ⟨d, env3, M3, hw, P3, r⟩ := shareD_ok P2.st (o1.up P2.fr.grows) hw
  obtain ⟨d', env4, M4, hw, P4, r'⟩ := shareD_ok P3.st (o2.up P3.fr.grows) hw
  have P := (P12.trans st P3).trans st P4
  obtain ⟨xs, e, hw⟩ := wpR_lift.mp hw
  have r := r.up P4.fr.grows
  unfold zipO at e
  split at e
  · cases e
    cases r with
    | lst h1 a1 =>
      cases r' with
      | lst h2 a2 => exact ⟨_, _, _, _, rfl, .inl ⟨(h1.mono (hid_le _ _)).l, (h2.mono (hid_le _ _)).l, hw _ H2 M4 P (yields_zL h1.l a1 h2.l a2)⟩⟩
  · cases e
    cases r with
    | tup h1 a1 =>
      cases r' with
      | tup h2 a2 => exact ⟨_, _, _, _, rfl, .inr ⟨Evl.ex_t (hid_le _ _) h1, Evl.ex_t (hid_le _ _) h2, hw _ H2 M4 P (yields_zT h1 a1 h2 a2)⟩⟩
  · cases e

theorem s_new2 {i : Nat} {x : Str} {pos' : Pos} (k : Ctx X g W) (hi : X.N[i]? = some x) (hx : Loc X.env.scope x) (hf : X.fn x = true ∨ X.env.scope.names.lookup x = some .local) (hsw : swapsWith (.List [] p') (some (.Name x pos)) pos'.line X.env = pure false) :
    PS X (.Assign [.Name x pos] (.List [] p') pos') (semS g sg call W (.new2 i)) := by
  refine PS.imp (fun D σ H hq => ?_) (ps_set k.nd hi hx (pe_lst pa_nil) hsw hf)
  obtain ⟨env, Mu, st, hw⟩ := hq
  simp only [den, wpR_bind] at hw
  obtain ⟨np, hl, hw⟩ := store_use hw
  refine ⟨Nat.zero_le _, fun q n => ?_⟩
  have PN : Post g env σ H Mu env σ (upd H q (.lst [])) (fun a => Mu a ∨ a = q) := (Post.refl st).newM st n
  have own : ∀ a, OwnAt (upd H q (.lst [])) (.own2 []) (.ref q) a → a = q := fun a oa => by
    rcases oa with oa | ⟨r', us, e, hr, ha⟩
    · cases oa
      rfl
    · cases e
      rw [upd_same] at hr
      cases hr
      cases ha
  have hs : SlOk g (upd H q (.lst [])) (fun a => Mu a ∨ a = q) (.ref q) (.own2 []) := ⟨q, [], rfl, .inr rfl, upd_same, .nil, fun z => (nomatch z), .nil⟩
  have no : ∀ a, OwnAt (upd H q (.lst [])) (.own2 []) (.ref q) a → ¬ Own (upd H q (.lst [])) env σ a := fun a oa o => by
    obtain rfl := own a oa
    exact (st.own_some (st.own_new n o)).1 n
  exact hw _ _ _ ⟨PN.st.put np hs no, PN.fr, fun a o => (o.of_put PN.st.len).elim (PN.sub a) fun z => .inr (by rw [own a z]; exact n)⟩
/-- a slot's thing takes a new one in -/
theorem Post.grab {i : Nat} {s0 s1 : Sl} {p : Addr} {o : HO} (st : Sta g env σ H Mu) (P : Post g env σ H Mu env1 σ H1 M1) (e : env1[i]? = some (some s0)) (es : σ[i]? = some (some v)) (op : OwnAt H1 s0 v p) (hs : SlOk g (upd H1 p o) M1 v s1)
    (ow : ∀ a, OwnAt (upd H1 p o) s1 v a → OwnAt H1 s0 v a ∨ (¬ Own H1 env1 σ a ∧ (Own H env σ a ∨ H a = none))) : Post g env σ H Mu (env1.set i (some s1)) σ (upd H1 p o) M1 := by
  have opp : Own H1 env1 σ p := ⟨i, _, _, e, es, op⟩
  obtain ⟨hp, mp⟩ := P.st.own_some opp
  have f : Fr (fun q => q = p) H1 M1 (upd H1 p o) M1 := Fr.wr mp hp rfl
  have D0 := Post.drop P.st i
  have nd : ∀ a, OwnAt H1 s0 v a → ¬ Own H1 (env1.set i none) σ a := fun a oa z => (Own.of_set_none (g := g) (Mu := M1) z).2 _ _ e P.st es oa
  have no : ∀ a, Own H1 (env1.set i none) σ a → ¬ (a = p) := fun a oa z => by
    subst z
    exact nd a op oa
  have S1 : Sta g (env1.set i none) σ (upd H1 p o) M1 := D0.st.up f no fun a m => f.e a (P.st.mh a m)
  have back : ∀ a, Own (upd H1 p o) (env1.set i none) σ a → Own H1 (env1.set i none) σ a := fun a oa => D0.st.own_up f no oa
  have noS : ∀ a, OwnAt (upd H1 p o) s1 v a → ¬ Own (upd H1 p o) (env1.set i none) σ a := fun a oa z => by
    rcases ow a oa with y | ⟨y, _⟩
    · exact nd a y (back a z)
    · exact y (Own.of_set_none (g := g) (Mu := M1) (back a z)).1
  obtain ⟨S2, ow2⟩ := S1.putSame es hs noS
  rw [List.set_set] at S2 ow2
  refine ⟨S2, P.fr.trans st.mh f fun a ea => ?_, fun a oa => ?_⟩
  · subst ea
    exact P.sub a opp
  · rcases ow2 a oa with y | y
    · exact P.sub a (Own.of_set_none (g := g) (Mu := M1) (back a y)).1
    · rcases ow a y with y | ⟨_, y⟩
      · exact P.sub a ⟨i, _, _, e, es, y⟩
      · exact y
theorem isL2_use {s : Sl} {R : Unit → Env → Prop} {E : Exn → Env → Prop} (h : wpR (isL2 s env) R E) : (∃ dss, s = .own2 dss) ∧ R () env := by
  cases s with
  | own2 dss => exact ⟨⟨dss, rfl⟩, h⟩
  | _ => exact h.elim
theorem s_app2 {i : Nat} {x : Str} {p1 p2 p3 : Pos} (k : Ctx X g W) (hi : X.N[i]? = some x) (hv : Vis X.env.scope x) (hd : (x == ("__debug__" : Str)) = false) (hcd : (x == ("__classdict__" : Str)) = false) (hl : (p2.endLine == p3.line) = true) (hns : noStar ea = true)
    (ha : PE X ea (semE g sg call W a)) : PS X (.Expr (.Call (.Attribute (.Name x p1) "append" p2) [ea] [] p3) pos) (semS g sg call W (.app2 i a)) := by
  have bm : PE X (.Call (.Attribute (.Name x p1) "append" p2) [ea] [] p3) (tBM X.K "list" rAppend (tVar i) (tCons (semE g sg call W a) tNil)) :=
    pe_bm PySem.F.plainAttrs_list PySem.F.slot_list_append PySem.F.type_list_append mt_append (pe_var hi hv hd hcd) (pa_cons ha pa_nil (star1 hns [] X.env)) (by rfl) (by rw [star1 hns]; rfl) hl (star1 hns [] X.env) (by rfl)
  rw [k.K] at bm
  refine PS.imp (fun D σ H hq => ?_) (ps_expr bm (by rfl))
  obtain ⟨env, Mu, st, hw⟩ := hq
  simp only [den, wpR_bind] at hw
  obtain ⟨s0, e0, hw⟩ := wpR_getS.mp hw
  obtain ⟨⟨dss0, rfl⟩, hw⟩ := isL2_use hw
  obtain ⟨u0, es, p, us0, rfl, _, hp0, _⟩ := st.sl i _ e0
  refine ⟨_, es, .inl ⟨rfl, us0, .inl (.inl hp0)⟩, ?_⟩
  refine ⟨env, Mu, st, wpR_mono hw (fun t env1 hw v H1 M1 P ok og => ?_) fun _ _ x => x⟩
  cases t with
  | ref _ => exact hw.elim
  | val s =>
    cases s with
    | own dd =>
      cases dd with
      | list ys =>
        obtain ⟨q, ws, ds, rfl, z, mq, hq, rq⟩ := ok.1.there
        cases z
        obtain ⟨s, e, hw⟩ := wpR_getS.mp (wpR_bind.mp hw)
        cases s with
        | own2 dss =>
          obtain ⟨u, es', hs⟩ := P.st.sl i _ e
          rw [es] at es'
          cases es'
          obtain ⟨p', us, z, m, hp, nd, np, rows⟩ := hs
          cases z
          by_cases hlt : dss.length < lim
          · simp only [hlt, if_true, wpR_bind] at hw
            have nq : ¬ Own H1 env1 σ q := ok.2 q rfl
            have own : ∀ a, OwnAt H1 (.own2 dss) (.ref p) a → Own H1 env1 σ a := fun a oa => ⟨i, _, _, e, es, oa⟩
            have npq : p ≠ q := fun z => nq (own q (.inl (by rw [z])))
            have nqu : V.ref q ∉ us := fun z => nq (own q (.inr ⟨p, us, rfl, hp, z⟩))
            refine ⟨p, us, .ref q, rfl, rfl, hp, by rw [rows.length]; exact Nat.lt_of_lt_of_le hlt (lim_line (Nat.le_refl _)), ?_⟩
            have f : Fr (fun a => a = p) H1 M1 (upd H1 p (.lst (us ++ [.ref q]))) M1 := Fr.wr m (by rw [hp]; simp) rfl
            have rows2 : Rows g.K (upd H1 p (.lst (us ++ [.ref q]))) M1 (us ++ [.ref q]) (dss ++ [ys]) :=
              rows_snoc (rows.up f fun a ha z => np (by rw [← z]; exact ha)) mq ((upd_ne (Ne.symm npq)).trans hq) (rq.up f.grows)
            refine hw σ _ M1 (Post.grab st P e es (p := p) (.inl rfl) ⟨p, us ++ [.ref q], rfl, m, upd_same, ?_, ?_, rows2⟩ fun a oa => ?_)
            · refine List.nodup_append.mpr ⟨nd, List.nodup_cons.mpr ⟨(fun z => nomatch z), .nil⟩, fun a ha b hb => ?_⟩
              rw [List.mem_singleton] at hb
              subst hb
              exact fun z => nqu (by rw [← z]; exact ha)
            · intro z
              rcases List.mem_append.mp z with z | z
              · exact np z
              · rw [List.mem_singleton] at z
                cases z
                exact npq rfl
            · rcases oa with oa | ⟨r', us', e', hr, hm⟩
              · exact .inl (.inl oa)
              · cases e'
                rw [upd_same] at hr
                cases hr
                rcases List.mem_append.mp hm with hm | hm
                · exact .inl (.inr ⟨p, us, rfl, hp, hm⟩)
                · rw [List.mem_singleton] at hm
                  cases hm
                  exact .inr ⟨nq, og q rfl⟩
          · simp only [hlt, if_false] at hw
            exact hw.elim
        | _ => exact hw.elim
      | _ => exact hw.elim
    | _ => exact hw.elim
theorem s_appL {i : Nat} {x : Str} {p1 p2 p3 p4 : Pos} (k : Ctx X g W) (hi : X.N[i]? = some x) (hv : Vis X.env.scope x) (hd : (x == ("__debug__" : Str)) = false) (hcd : (x == ("__classdict__" : Str)) = false) (hp : plainIx eb = true) (hl : (p2.endLine == p3.line) = true) (hns : noStar ea = true)
    (ha : PE X ea (semP g sg call W a)) (hb : PE X eb (semP g sg call W b)) : PS X (.Expr (.Call (.Attribute (.Subscript (.Name x p1) eb p4) "append" p2) [ea] [] p3) pos) (semS g sg call W (.appL i b a)) := by
  have o := ix_list (X := X)
  rw [k.K] at o
  have bm : PE X (.Call (.Attribute (.Subscript (.Name x p1) eb p4) "append" p2) [ea] [] p3) (tBM X.K "list" rAppend _ (tCons (semP g sg call W a) tNil)) :=
    pe_bm PySem.F.plainAttrs_list PySem.F.slot_list_append PySem.F.type_list_append mt_append (pe_ix o (pe_var hi hv hd hcd) hb (plain_ix hp)) (pa_cons ha pa_nil (star1 hns [] X.env)) (by rfl) (by rw [star1 hns]; rfl) hl (star1 hns [] X.env) (by rfl)
  rw [k.K] at bm
  refine PS.imp (fun D σ H hq => ?_) (ps_expr bm (by rfl))
  obtain ⟨env, Mu, st, hw⟩ := hq
  simp only [den, wpR_bind] at hw
  obtain ⟨s1, e1, hw⟩ := wpR_getS.mp hw
  obtain ⟨⟨dss1, rfl⟩, hw⟩ := isL2_use hw
  obtain ⟨u1, es, _⟩ := st.sl i _ e1
  refine ⟨u1, es, ?_⟩
  show semP g sg call W b σ H _
  refine semP_of st hw (fun _ _ x => x) fun t2 env2 v2 H2 M2 P2 o2 hw => ?_
  obtain ⟨kx, rfl, hw⟩ := intOf_ok P2.st o2.ok hw
  obtain ⟨s0, e0, hw⟩ := wpR_getS.mp hw
  cases s0 with
  | own2 dss =>
    simp only [wpR_bind] at hw
    obtain ⟨u, es2, hs0⟩ := P2.st.sl i _ e0
    rw [es] at es2
    have eu : u1 = u := Option.some.inj (Option.some.inj es2)
    subst eu
    obtain ⟨p, us, rfl, m, hpp, nd, np, rows⟩ := hs0
    have hw : wpR ((liftO (ixN dss.length kx) : M Nat) (env2.set i none)) _ _ := hw
    obtain ⟨n, en, hw⟩ := wpR_lift.mp hw
    obtain ⟨row, er, hw⟩ := wpR_lift.mp hw
    obtain ⟨q0, ws0, eq0, mq0, hq0, rq0⟩ := rows.at_ er
    refine ⟨p, us, kx, .ref q0, rfl, rfl, .of hpp, ?_, ?_⟩
    · unfold atI
      rw [rows.length, en]
      exact eq0
    refine ⟨.inl ⟨rfl, ws0, .inl (.inl hq0)⟩, ?_⟩
    have D0 := Post.drop P2.st i
    show semP g sg call W a σ H2 _
    refine semP_of D0.st hw (ExP.step st (P2.trans st D0)) fun t3 env3 v3 H3 M3 P3 o3 hw => ?_
    obtain ⟨d, env4, M4, hw, P4, r⟩ := shareD_ok P3.st o3 hw
    have P34 := P3.trans D0.st P4
    obtain ⟨P5, hs5, _⟩ := Post.regain P2.st e0 es P34
    obtain ⟨p', us', z, m', hp', nd', np', rows'⟩ := hs5
    cases z
    have eroot : H3 p = H2 p := (P34.fr.b p m fun o => (Own.of_set_none (g := g) (Mu := M2) o).2 _ _ e0 P2.st es (.inl rfl)).2
    rw [eroot, hpp] at hp'
    cases hp'
    obtain ⟨q, ws, eq, mq, hq, rq⟩ := rows'.at_ er
    rw [eq0] at eq
    cases eq
    by_cases hlt : row.length < lim
    · simp only [hlt, if_true, wpR_bind] at hw
      refine ⟨q0, ws, v3, rfl, rfl, hq, by rw [rq.length]; exact Nat.lt_of_lt_of_le hlt (lim_line (Nat.le_refl _)), ?_⟩
      have hmem : V.ref q0 ∈ us := List.mem_of_getElem? eq0
      have npq : p ≠ q0 := fun z => np (by rw [z]; exact hmem)
      have f : Fr (fun a => a = q0) H3 M4 (upd H3 q0 (.lst (ws ++ [v3]))) M4 := Fr.wr mq (by rw [hq]; simp) rfl
      have li : i < env4.length := by
        have a1 := P34.st.len
        have a2 := (List.getElem?_eq_some_iff.mp es).1
        omega
      have P6 : Post g (env4.set i (some (.own2 dss))) σ H3 M4 ((env4.set i (some (.own2 dss))).set i (some (.own2 (dss.set n (row ++ [d]))))) σ (upd H3 q0 (.lst (ws ++ [v3]))) M4 := by
        refine Post.poke P5.st (List.getElem?_set_self li) es (.inr ⟨p, us, rfl, eroot.trans hpp, hmem⟩) ⟨p, us, rfl, m', (upd_ne npq).trans (eroot.trans hpp), nd, np, rows'.put nd eq0 f ((rq.app (.cons r .nil)).up f.grows)⟩ fun a oa => ?_
        rcases oa with oa | ⟨r', us', e, hr, ha⟩
        · exact .inl oa
        · cases e
          rw [upd_ne npq] at hr
          exact .inr ⟨p, us', rfl, hr, ha⟩
      rw [List.set_set] at P6
      exact hw σ _ M4 (P2.trans st (P5.trans P2.st P6))
    · simp only [hlt, if_false] at hw
      exact hw.elim
  | _ => exact hw.elim
end
end Ev
end
section
namespace Ev
open PySem PySem.Spec PyProof.Rows L2

structure FnG (P : Program) (w : World) (K : PySem.W.Frag) (mg : Str → Option Value) (base : Heap) (k : Nat) (f : Addr) (fd : FuncData) (ps : List Str) (sp : Sp) : Prop where
  len : ∀ vs H Q E, sp vs H Q E → vs.length = ps.length
  run : ∀ (A : Around) (outer : List PySem.Env) (s : Shared) (H : Hp) (args : Args) (us : List Value) (vs : List V) (Q : VK) (E : XK), A.guards = some [] → Room k A → Env0 P w K mg base A outer s H →
    BindsTo s fd args (ps.zip us) → Vals vs us → sp vs H Q E → codeAny (model P w) A (.call (.ref f) args) (CR (L2N.CX P w) outer P w H s Q E) s
theorem FnG.mono {P : Program} {w : World} {K : PySem.W.Frag} {mg : Str → Option Value} {base : Heap} {j k : Nat} {f : Addr} {fd : FuncData} {ps : List Str} {sp : Sp} (F : FnG P w K mg base j f fd ps sp) (h : j ≤ k) : FnG P w K mg base k f fd ps sp :=
  ⟨F.len, fun A outer s H args us vs Q E hg hr => F.run A outer s H args us vs Q E hg (hr.mono h)⟩
theorem fnG_of {P : Program} {w : World} {K : PySem.W.Frag} {mg : Str → Option Value} {base : Heap} {k : Nat} {f : Addr} {name qual : Str} {params : Arguments} {body : List Stmt} {scope : Scope} {dV kV doc pm cdv ct oc : Value} {an od : Option Addr}
    {osl : Array (Option Value)} {N ps : List Str} {sp : Sp} (lk : K.lookup f = some ⟨oc, od, .func (PySem.W.fnOf name qual params body scope dV kV doc pm an cdv ct), osl⟩) (hcd : PySem.W.codeIn K cdv qual = true) (S : FnScope N ps scope)
    (len : ∀ vs H Q E, sp vs H Q E → vs.length = ps.length)
    (hbody : ∀ (A : Around) (outer : List PySem.Env) (s : Shared) (H : Hp) (vs : List V) (Q : VK) (E : XK), (A.deeper (envOfC qual scope s.heap.objs.size f cdv)).guards = some [] → Room k (A.deeper (envOfC qual scope s.heap.objs.size f cdv)) → sp vs H Q E →
      ∃ t, PSs (cxOf (L2N.CX P w) P w K mg base N qual scope f cdv A outer s H E) body t ∧ t { nx := fun _ H' => Q .non H', rt := Q } (start N vs) H) :
    FnG P w K mg base (k + 1) f (PySem.W.fnOf name qual params body scope dV kV doc pm an cdv ct) ps sp := by
  refine ⟨len, fun A outer s H args us vs Q E hg hr e0 hb r hsp => ?_⟩
  have keeps : ∀ b o, base.get? b = some o → s.heap.get? b = some o := fun b o e => (e0.bs b o e).1
  have KX : K.In s.heap := e0.mod.kin.keeps keeps
  have kinds : ∀ y ∈ ps.zip us, scope.names.lookup y.1 = some .local ∨ (scope.names.lookup y.1 = some .cell ∧ ((cellsFrom (s.heap.objs.size + 1) scope.names []).lookup y.1).isSome = true) := by
    rintro ⟨n, u⟩ hy
    exact (S.par n (List.of_mem_zip hy).1).imp id fun q => ⟨q, PySem.W.cellsFrom_some _ _ _ (.inl q)⟩
  refine codeAny_call_function hr.depth (KX _ _ lk) rfl S.co S.gen rfl (PySem.W.codeRec_of KX hcd) (hb _ _ _ _ (wpAny_newFunctionEnv_cells S.kind kinds fun env he s1 x => ?_))
  subst he
  refine ⟨(e0.mod.nolimit.keeps keeps).keeps x.toInCall.keep, codeAny_func ?_⟩
  obtain ⟨t, ht, hq⟩ := hbody A outer s H vs Q E hg (hr.deeper _) hsp
  have I := inv_start (CX := L2N.CX P w) (E := E) S hr.hd e0 (len _ _ _ _ hsp) r x
  refine wpAny_mono (ht.run [] s1 (start N vs) H _ I hq) (fun fl s' hs => ?_) fun e s' hs => hs
  cases fl with
  | ret u =>
    obtain ⟨v, σ', H', J, rv, q⟩ := hs
    exact ⟨v, H', J.os, J.bare, J.base, J.hok, rv, q⟩
  | next =>
    obtain ⟨σ', H', J, q⟩ := hs
    exact ⟨.non, H', J.os, J.bare, J.base, J.hok, rfl, q⟩
  | brk => exact hs.elim fun _ z => z.elim fun _ z => z.2.elim
  | cont => exact hs.elim fun _ z => z.elim fun _ z => z.2.elim
section
variable {X : Cx} {k : Nat} {f : Addr} {fd : FuncData} {ps : List Str} {sp : Sp} {W : WX} {x : Str} {p pos : Pos} {e : Expr} {es : List Expr} {t : TA}
def tCallG (sp : Sp) (W : WX) (t : TA) : TE := fun σ H Q => t σ H fun vs H1 => sp vs H1 Q (fun cls d H' => W cls d σ H')
theorem pe_callG (F : FnG X.prog X.w X.K X.mg X.base k f fd ps sp) (hgd : X.A.guards = some []) (hr : Room k X.A) (hg : Gl X x) (hm : X.mg x = some (.ref f)) (hk : PySem.W.keepIn X.K (.ref f) = true) (hb : L2.Binds X.K fd ps []) (tk : L2N.Takes X W)
    (hs : (e :: es).all noStar = true) (ha : PA X (e :: es) t) (hdb : (x == ("__debug__" : Str)) = false) : PE X (.Call (.Name x p) (e :: es) [] pos) (tCallG sp W t) := by
  rw [List.all_cons, Bool.and_eq_true] at hs
  refine ⟨fun pins s σ H Q I h => wpAny_Call_Name_kw (ld_glob I hg hm ?_ hdb)⟩
  refine PySem.W.callWith_K (h₀ := X.base) I.ok.mod.kin hk (thn (ha.run pos pins s σ H _ I h) fun us s1 ⟨vs, H1, I1, r, q⟩ => ⟨I1.kIn, ?_⟩) (star1 hs.1 es X.env) (stars hs.2)
  have hl : (us ++ []).length = ps.length := by rw [List.append_nil, ← r.length]; exact F.len _ _ _ _ q
  have hb' := hb s1 us I1.kIn hl
  rw [List.append_nil] at hb'
  refine wpAny_call (codeAny_mono (F.run X.A X.stack s1 H1 ⟨us, []⟩ us vs Q _ hgd hr I1.env0 hb' r q) fun rr s' hq => ?_)
  cases rr with
  | error er => exact L2N.passAt tk σ pins H1 s1 er s' I1 hq
  | ok fl =>
    cases fl with
    | ret u => exact I1.after hq
    | next => exact hq.elim
    | brk => exact hq.elim
    | cont => exact hq.elim
end

/-- arguments as a def takes them; ps: what it may change -/
inductive Args (K : PySem.W.Frag) (H : Hp) (Mu : Addr → Prop) : List Bool → List V → List Sl → List Addr → Prop
  | nil : Args K H Mu [] [] [] []
  | imm {ms : List Bool} {v : V} {vs : List V} {d : D} {ss : List Sl} {ps : List Addr} : Rp K (hid H Mu) v d → Args K H Mu ms vs ss ps → Args K H Mu (false :: ms) (v :: vs) (.imm d :: ss) ps
  | own {ms : List Bool} {p : Addr} {vs us : List V} {ds : List D} {ss : List Sl} {ps : List Addr} : Mu p → H p = some (.lst us) → RpAll K (hid H Mu) us ds → p ∉ ps → Args K H Mu ms vs ss ps → Args K H Mu (true :: ms) (.ref p :: vs) (.own (.list ds) :: ss) (p :: ps)
/-- what stands there behind the call -/
inductive Fins (K : PySem.W.Frag) (H : Hp) (Mu : Addr → Prop) : List Bool → List V → List Sl → Prop
  | nil : Fins K H Mu [] [] []
  | imm {ms : List Bool} {v : V} {vs : List V} {s : Sl} {ss : List Sl} : Fins K H Mu ms vs ss → Fins K H Mu (false :: ms) (v :: vs) (s :: ss)
  | own {ms : List Bool} {p : Addr} {vs us : List V} {ds : List D} {ss : List Sl} : Mu p → H p = some (.lst us) → RpAll K (hid H Mu) us ds → Fins K H Mu ms vs ss → Fins K H Mu (true :: ms) (.ref p :: vs) (.own (.list ds) :: ss)
inductive Lent (σ : L2.St) : List Bool → List TV → List V → Prop
  | nil : Lent σ [] [] []
  | imm {ms : List Bool} {t : TV} {ts : List TV} {v : V} {vs : List V} : Lent σ ms ts vs → Lent σ (false :: ms) (t :: ts) (v :: vs)
  | own {ms : List Bool} {i : Nat} {ts : List TV} {v : V} {vs : List V} : σ[i]? = some (some v) → Lent σ ms ts vs → Lent σ (true :: ms) (.ref i :: ts) (v :: vs)
section
variable {g : Gx} {env env1 env2 : Env} {σ σ1 σ2 : L2.St} {H H1 H2 : Hp} {Mu M1 M2 : Addr → Prop} {v w : V} {K : PySem.W.Frag}
theorem Args.length {ms : List Bool} {vs : List V} {ss : List Sl} {ps : List Addr} (h : Args K H Mu ms vs ss ps) : vs.length = ms.length ∧ ss.length = ms.length := by
  induction h with
  | nil => exact ⟨rfl, rfl⟩
  | imm _ _ ih => exact ⟨congrArg (· + 1) ih.1, congrArg (· + 1) ih.2⟩
  | own _ _ _ _ _ ih => exact ⟨congrArg (· + 1) ih.1, congrArg (· + 1) ih.2⟩
theorem pass_ok : ∀ {ms : List Bool} {ts : List TV} {vs : List V} {env : Env} {Mu : Addr → Prop} {R : List Sl → Env → Prop} {E : Exn → Env → Prop}, Sta g env σ H Mu → TVPs g σ H Mu vs ts → wpR (pass g.pins ms ts env) R E →
    ∃ ss env2 M2 ps, R ss env2 ∧ Post g env σ H Mu env2 σ H M2 ∧ Args g.K H M2 ms vs ss ps ∧ (∀ p ∈ ps, Own H env σ p ∧ ¬ Own H env2 σ p) ∧ Lent σ ms ts vs
  | [], [], _, _, _, _, _, st, .nil, hw => ⟨_, _, _, [], hw, .refl st, .nil, (fun _ h => (nomatch h)), .nil⟩
  | [], _ :: _, _, _, _, _, _, _, _, hw => hw.elim
  | false :: ms, t :: ts, _, env, Mu, R, E, st, .cons h r, hw => by
    simp only [pass, wpR_bind] at hw
    obtain ⟨d, env1, M1, hw, P, rd⟩ := shareD_ok st h hw
    obtain ⟨ss, env2, M2, ps, hw, P2, ar, ow, le⟩ := pass_ok P.st (r.up P.fr.grows) hw
    refine ⟨_, _, _, ps, hw, P.trans st P2, .imm (rd.up P2.fr.grows) ar, fun p hp => ⟨?_, (ow p hp).2⟩, .imm le⟩
    exact (P.sub p (ow p hp).1).elim id fun z => absurd z (P.st.own_some (ow p hp).1).1
  | true :: ms, .ref i :: ts, _, env, Mu, R, E, st, .cons h r, hw => by
    simp only [pass, wpR_bind] at hw
    obtain ⟨s, e, hw⟩ := wpR_getS.mp hw
    cases s with
    | own dd =>
      cases dd with
      | list ds =>
        obtain ⟨p, us, es, m, hp, rr⟩ := ownL st e
        have h' : σ[i]? = some (some _) := h
        rw [es] at h'
        cases h'
        have D := Post.drop st i
        simp only [wpR_bind] at hw
        have nO : ¬ Own H (env.set i none) σ p := fun o => (Own.of_set_none (g := g) (Mu := Mu) o).2 _ _ e st es rfl
        obtain ⟨ss, env2, M2, ps, hw, P2, ar, ow, le⟩ := pass_ok D.st r hw
        obtain ⟨m2, _⟩ := P2.fr.b p m nO
        refine ⟨_, _, _, p :: ps, hw, D.trans st P2, .own m2 hp (rr.up P2.fr.grows) (fun hm => nO (ow p hm).1) ar, fun q hq => ?_, .own es le⟩
        rcases List.mem_cons.mp hq with rfl | hq
        · exact ⟨Own.mk e es, fun o => (P2.sub q o).elim nO fun z => by rw [hp] at z; cases z⟩
        · exact ⟨(D.sub q (ow q hq).1).elim id fun z => absurd z (D.st.own_some (ow q hq).1).1, (ow q hq).2⟩
      | _ => exact hw.elim
    | _ => exact hw.elim
  | true :: _, .val _ :: _, _, _, _, _, _, _, _, hw => hw.elim
  | true :: _, [], _, _, _, _, _, _, _, hw => hw.elim
  | false :: _, [], _, _, _, _, _, _, _, hw => hw.elim
theorem back_ok : ∀ (ms : List Bool) {ts : List TV} {vs : List V} {fin : List Sl} {ps : List Addr} {ss : List Sl} {H0 : Hp} {M0 : Addr → Prop} {env : Env} {R : Unit → Env → Prop} {E : Exn → Env → Prop}, Lent σ ms ts vs → Sta g env σ H Mu → Fins g.K H Mu ms vs fin →
    Args g.K H0 M0 ms vs ss ps → (∀ p ∈ ps, ¬ Own H env σ p) → wpR (back ms ts fin env) R E → ∃ env3, R () env3 ∧ Sta g env3 σ H Mu ∧ ∀ p, Own H env3 σ p → Own H env σ p ∨ p ∈ ps
  | [], _, _, _, _, _, _, _, _, _, _, le, st, fi, ar, no, hw => by
    cases le
    exact ⟨_, hw, st, fun _ o => .inl o⟩
  | false :: ms, _, _, _, _, _, _, _, _, _, _, le, st, fi, ar, no, hw => by
    cases le with
    | imm le =>
      cases fi with
      | imm fi =>
        cases ar with
        | imm _ ar => exact back_ok ms le st fi ar no hw
  | true :: ms, _, _, _, _, _, _, _, env, R, E, le, st, fi, ar, no, hw => by
    cases le with
    | own es le =>
      cases fi with
      | own m hp r fi =>
        rename_i p us ds fin
        cases ar with
        | own _ _ _ nin ar =>
          simp only [back, wpR_bind] at hw
          have n0 : ¬ Own H env σ p := no p (List.mem_cons_self ..)
          obtain ⟨st2, ow⟩ := st.putSame (s := .own (.list ds)) es ⟨p, us, rfl, m, hp, r⟩ fun q e => by cases (show V.ref p = .ref q from e); exact n0
          obtain ⟨env3, hw, st3, ow3⟩ := back_ok ms le st2 fi ar (fun q hq o => (ow q o).elim (no q (List.mem_cons_of_mem _ hq)) fun z => by
            cases (show V.ref p = .ref q from z)
            exact nin hq) hw
          refine ⟨env3, hw, st3, fun q o => ?_⟩
          rcases ow3 q o with o | o
          · rcases ow q o with o | e
            · exact .inl o
            · cases (show V.ref p = .ref q from e)
              exact .inr (List.mem_cons_self ..)
          · exact .inr (List.mem_cons_of_mem _ o)
end
end Ev
end
section
namespace Ev
open PySem PySem.Spec PyProof.Rows L2

def Out (K : PySem.W.Frag) (H : Hp) (Mu : Addr → Prop) (ms : List Bool) (vs : List V) (ps : List Addr) (H' : Hp) (Mu' : Addr → Prop) (fin : List Sl) : Prop :=
  Fr (fun p => p ∈ ps) H Mu H' Mu' ∧ (∀ p, Mu' p → H' p ≠ none) ∧ Fins K H' Mu' ms vs fin
abbrev bare (K : PySem.W.Frag) (mg : Str → Option Value) (gl : Str → Option D) : Gx := ⟨K, mg, [], [], [], gl⟩
/-- what a def promises, by what the evaluator tells -/
def spF (K : PySem.W.Frag) (mg : Str → Option Value) (gl : Str → Option D) (ms : List Bool) (fn : List Sl → FR) : Sp := fun vs H Q E => ∃ Mu ss ps, (∀ p, Mu p → H p ≠ none) ∧ Args K H Mu ms vs ss ps ∧ match fn ss with
  | .ok s fin => ∀ v H' Mu', Out K H Mu ms vs ps H' Mu' fin → SlOk (bare K mg gl) H' Mu' v s → (∀ d, s = .own d → ∀ p, v = .ref p → H p = none) → Q v H'
  | .ex x fin => ∀ cls d H' Mu', Out K H Mu ms vs ps H' Mu' fin → XOk (bare K mg gl) cls d x (hid H' Mu') → E cls d H'
  | .bad => False
section
variable {g : Gx} {env env1 env2 : Env} {σ σ1 σ2 : L2.St} {H H1 H2 : Hp} {Mu M1 M2 : Addr → Prop} {v w : V} {K : PySem.W.Frag}
theorem Args.at : ∀ {ms : List Bool} {vs : List V} {ss : List Sl} {ps : List Addr} {i : Nat} {s : Sl}, Args g.K H Mu ms vs ss ps → ss[i]? = some s → ∃ v, vs[i]? = some v ∧ SlOk g H Mu v s ∧ (∀ d p, s = .own d → v = .ref p → p ∈ ps)
  | [], _, _, _, _, _, h, e => by
    cases h
    simp at e
  | false :: ms, _, _, _, 0, _, h, e => by
    cases h with
    | imm r h =>
      cases e
      exact ⟨_, rfl, r, fun _ _ z => nomatch z⟩
  | true :: ms, _, _, _, 0, _, h, e => by
    cases h with
    | own m hp r n h =>
      cases e
      exact ⟨_, rfl, ⟨_, _, rfl, m, hp, r⟩, fun _ _ _ z => by cases z; exact List.mem_cons_self ..⟩
  | false :: ms, _, _, _, i + 1, _, h, e => by
    cases h with
    | imm r h =>
      obtain ⟨v, e1, e2, e3⟩ := Args.at (i := i) h (by simpa using e)
      exact ⟨v, by simpa using e1, e2, e3⟩
  | true :: ms, _, _, _, i + 1, _, h, e => by
    cases h with
    | own m hp r n h =>
      obtain ⟨v, e1, e2, e3⟩ := Args.at (i := i) h (by simpa using e)
      exact ⟨v, by simpa using e1, e2, fun d p a b => List.mem_cons_of_mem _ (e3 d p a b)⟩
theorem Args.inj : ∀ {ms : List Bool} {vs : List V} {ss : List Sl} {ps : List Addr} {i j : Nat} {d d' : D} {p : Addr}, Args g.K H Mu ms vs ss ps → ss[i]? = some (.own d) → ss[j]? = some (.own d') → vs[i]? = some (.ref p) → vs[j]? = some (.ref p) → i = j
  | [], _, _, _, _, _, _, _, _, h, e, _, _, _ => by
    cases h
    simp at e
  | false :: ms, _, _, _, i, j, d, d', p, h, e1, e2, e3, e4 => by
    cases h with
    | imm r h =>
      cases i with
      | zero => cases e1
      | succ i =>
        cases j with
        | zero => cases e2
        | succ j => exact congrArg (· + 1) (Args.inj h (by simpa using e1) (by simpa using e2) (by simpa using e3) (by simpa using e4))
  | true :: ms, _, _, _, i, j, d, d', p, h, e1, e2, e3, e4 => by
    cases h with
    | own m hp r n h =>
      cases i with
      | zero =>
        cases e3
        cases j with
        | zero => rfl
        | succ j =>
          obtain ⟨v, a1, a2, a3⟩ := Args.at (g := g) (i := j) h (by simpa using e2)
          have a4 : v = .ref p := Option.some.inj (a1.symm.trans (by simpa using e4))
          exact (n (a3 _ _ rfl a4)).elim
      | succ i =>
        cases j with
        | zero =>
          cases e4
          obtain ⟨v, a1, a2, a3⟩ := Args.at (g := g) (i := i) h (by simpa using e1)
          have a4 : v = .ref p := Option.some.inj (a1.symm.trans (by simpa using e3))
          exact (n (a3 _ _ rfl a4)).elim
        | succ j => exact congrArg (· + 1) (Args.inj h (by simpa using e1) (by simpa using e2) (by simpa using e3) (by simpa using e4))
theorem Args.no2 : ∀ {ms : List Bool} {vs : List V} {ss : List Sl} {ps : List Addr} {i : Nat} {s : Sl}, Args K H Mu ms vs ss ps → ss[i]? = some s → (∃ d, s = .own d) ∨ ∃ d, s = .imm d
  | [], _, _, _, _, _, h, e => by
    cases h
    simp at e
  | false :: ms, _, _, _, 0, _, h, e => by
    cases h with
    | imm r h =>
      cases e
      exact .inr ⟨_, rfl⟩
  | true :: ms, _, _, _, 0, _, h, e => by
    cases h with
    | own m hp r n h =>
      cases e
      exact .inl ⟨_, rfl⟩
  | false :: ms, _, _, _, i + 1, _, h, e => by
    cases h with
    | imm r h => exact Args.no2 (i := i) h (by simpa using e)
  | true :: ms, _, _, _, i + 1, _, h, e => by
    cases h with
    | own m hp r n h => exact Args.no2 (i := i) h (by simpa using e)
/-- what may be changed stands at such a place -/
theorem Args.pl : ∀ {ms : List Bool} {vs : List V} {ss : List Sl} {ps : List Addr} {p : Addr}, Args K H Mu ms vs ss ps → p ∈ ps → ∃ k : Nat, ms[k]? = some true ∧ vs[k]? = some (.ref p)
  | [], _, _, _, _, h, e => by
    cases h
    cases e
  | false :: ms, _, _, _, _, h, e => by
    cases h with
    | imm r h =>
      obtain ⟨k, e1, e2⟩ := Args.pl h e
      exact ⟨k + 1, by simpa using e1, by simpa using e2⟩
  | true :: ms, _, _, _, _, h, e => by
    cases h with
    | own m hp r n h =>
      rcases List.mem_cons.mp e with rfl | e
      · exact ⟨0, rfl, rfl⟩
      · obtain ⟨k, e1, e2⟩ := Args.pl h e
        exact ⟨k + 1, by simpa using e1, by simpa using e2⟩
theorem pins_at : ∀ {ms : List Bool} {o k : Nat}, ms[k]? = some true → o + k ∈ pinsOf ms o
  | true :: ms, o, 0, _ => List.mem_cons_self ..
  | true :: ms, o, k + 1, h => by
    have := pins_at (ms := ms) (o := o + 1) (k := k) (by simpa using h)
    rw [show o + (k + 1) = o + 1 + k by omega]
    exact List.mem_cons_of_mem _ this
  | false :: ms, o, 0, h => by cases h
  | false :: ms, o, k + 1, h => by
    have := pins_at (ms := ms) (o := o + 1) (k := k) (by simpa using h)
    rw [show o + (k + 1) = o + 1 + k by omega]
    exact this
  | [], _, _, h => by simp at h
theorem pins_lt : ∀ {ms : List Bool} {o k : Nat}, k ∈ pinsOf ms o → k < o + ms.length
  | true :: ms, o, k, h => by
    rcases List.mem_cons.mp h with rfl | h
    · simp
    · have := pins_lt h
      simp only [List.length_cons]
      omega
  | false :: ms, o, k, h => by
    have := pins_lt (ms := ms) h
    simp only [List.length_cons]
    omega
  | [], _, _, h => by cases h
theorem fins_of : ∀ {ms : List Bool} {vs : List V} {es : Env} {fin : List Sl}, (∀ (i : Nat) d, es[i]? = some (some (.own d)) → ms[i]? = some true → ∃ v, vs[i]? = some v ∧ SlOk g H Mu v (.own d)) → finOf ms es = some fin → vs.length = ms.length → Fins g.K H Mu ms vs fin
  | [], [], _, _, _, e, _ => by
    cases e
    exact .nil
  | [], _ :: _, _, _, _, _, l => by cases l
  | true :: ms, [], _, _, _, _, l => by cases l
  | false :: ms, [], _, _, _, _, l => by cases l
  | false :: ms, v :: vs, [], _, _, e, _ => by cases e
  | false :: ms, v :: vs, x :: es, fin, h, e, l => by
    have e' : (finOf ms es).map (.imm .none :: ·) = some fin := e
    obtain ⟨f, e1, e2⟩ := Option.map_eq_some_iff.mp e'
    subst e2
    exact .imm (fins_of (fun i d a b => by simpa using h (i + 1) d (by simpa using a) (by simpa using b)) e1 (by simpa using l))
  | true :: ms, v :: vs, [], _, _, e, _ => by cases e
  | true :: ms, v :: vs, none :: es, fin, h, e, l => by cases e
  | true :: ms, v :: vs, some (.imm _) :: es, fin, h, e, l => by cases e
  | true :: ms, v :: vs, some (.exc _) :: es, fin, h, e, l => by cases e
  | true :: ms, v :: vs, some (.own d) :: es, fin, h, e, l => by
    have e' : (finOf ms es).map (.own d :: ·) = some fin := e
    obtain ⟨f, e1, e2⟩ := Option.map_eq_some_iff.mp e'
    subst e2
    obtain ⟨v', a1, a2⟩ := h 0 d rfl rfl
    have a3 : v = v' := Option.some.inj a1
    subst a3
    obtain ⟨p, us, ds, rfl, rfl, m, hp, r⟩ := a2.there
    exact .own m hp r (fins_of (fun i d a b => by simpa using h (i + 1) d (by simpa using a) (by simpa using b)) e1 (by simpa using l))
theorem fin_own : ∀ {ms : List Bool} {es : Env} {fin : List Sl} {k : Nat}, finOf ms es = some fin → ms[k]? = some true → ∃ d, es[k]? = some (some (.own d))
  | [], _, _, _, _, h => by simp at h
  | false :: ms, [], _, _, e, _ => by cases e
  | false :: ms, x :: es, fin, 0, _, h => by cases h
  | false :: ms, x :: es, fin, k + 1, e, h => by
    have e' : (finOf ms es).map (.imm .none :: ·) = some fin := e
    obtain ⟨f, e1, _⟩ := Option.map_eq_some_iff.mp e'
    simpa using fin_own (k := k) e1 (by simpa using h)
  | true :: ms, [], _, _, e, _ => by cases e
  | true :: ms, none :: es, fin, _, e, _ => by cases e
  | true :: ms, some (.imm _) :: es, fin, _, e, _ => by cases e
  | true :: ms, some (.exc _) :: es, fin, _, e, _ => by cases e
  | true :: ms, some (.own d) :: es, fin, 0, e, _ => ⟨d, rfl⟩
  | true :: ms, some (.own d) :: es, fin, k + 1, e, h => by
    have e' : (finOf ms es).map (.own d :: ·) = some fin := e
    obtain ⟨f, e1, _⟩ := Option.map_eq_some_iff.mp e'
    simpa using fin_own (k := k) e1 (by simpa using h)
theorem SlOk.bare {s : Sl} (hp : g.pn = []) : SlOk g H Mu v s ↔ SlOk (Ev.bare g.K g.mg g.gl) H Mu v s := by
  cases s with
  | imm d => exact Iff.rfl
  | own2 d => exact Iff.rfl
  | own d => cases d <;> exact Iff.rfl
  | exc x =>
    constructor
    · rintro ⟨a, oe, _, h, _⟩
      rw [hp] at h
      cases h
    · rintro ⟨a, oe, _, h, _⟩
      cases h
end

section
variable {K : PySem.W.Frag} {mg : Str → Option Value} {gl : Str → Option D} {N : List Str} {ms : List Bool} {d : Def} {sg : Sig} {call : Call}
abbrev gOf (K : PySem.W.Frag) (mg : Str → Option Value) (gl : Str → Option D) (N : List Str) (ms : List Bool) (vs : List V) : Gx := ⟨K, mg, pinsOf ms 0, L2.start N vs, [], gl⟩
theorem start_at {vs : List V} {i : Nat} {v : V} (h : vs[i]? = some v) : (L2.start N vs)[i]? = some (some v) := by
  have hl := (List.getElem?_eq_some_iff.mp h).1
  unfold L2.start
  rw [List.getElem?_append_left (by simpa using hl), List.getElem?_map, h]
  rfl
theorem env_at {ss : List Sl} {n : Nat} {i : Nat} {s : Sl} (h : (ss.map some ++ List.replicate n none)[i]? = some (some s)) : ss[i]? = some s := by
  by_cases hl : i < ss.length
  · rw [List.getElem?_append_left (by simpa using hl), List.getElem?_map] at h
    cases e : ss[i]? with
    | none => rw [e] at h; cases h
    | some a =>
      rw [e] at h
      cases h
      rfl
  · rw [List.getElem?_append_right (by simpa using hl), List.getElem?_replicate] at h
    split at h <;> cases h
theorem sta_start {H : Hp} {Mu : Addr → Prop} {vs : List V} {ss : List Sl} {ps : List Addr} (mh : ∀ p, Mu p → H p ≠ none) (ar : Args K H Mu ms vs ss ps) (hn : ms.length ≤ N.length) :
    Sta (gOf K mg gl N ms vs) (ss.map some ++ List.replicate (N.length - ss.length) none) (L2.start N vs) H Mu ∧ ∀ p, Own H (ss.map some ++ List.replicate (N.length - ss.length) none) (L2.start N vs) p → p ∈ ps := by
  obtain ⟨l1, l2⟩ := ar.length
  refine ⟨⟨fun i s e => ?_, fun i j a b v w p ei ej si sj oi oj => ?_, mh, fun _ _ => rfl, ?_⟩, fun p o => ?_⟩
  · obtain ⟨v, e1, e2, _⟩ := Args.at (g := gOf K mg gl N ms vs) ar (env_at e)
    exact ⟨v, start_at e1, e2⟩
  · have ei := env_at ei
    have ej := env_at ej
    obtain ⟨v', a1, _, _⟩ := Args.at (g := gOf K mg gl N ms vs) ar ei
    obtain ⟨w', b1, _, _⟩ := Args.at (g := gOf K mg gl N ms vs) ar ej
    rw [start_at a1] at si
    rw [start_at b1] at sj
    cases si
    cases sj
    obtain ⟨d, rfl⟩ : ∃ d, a = .own d := (Args.no2 ar ei).elim id fun z => by
      obtain ⟨d, rfl⟩ := z
      exact oi.elim
    obtain ⟨d', rfl⟩ : ∃ d, b = .own d := (Args.no2 ar ej).elim id fun z => by
      obtain ⟨d, rfl⟩ := z
      exact oj.elim
    have z1 : v = .ref p := oi
    have z2 : w = .ref p := oj
    rw [z1] at a1
    rw [z2] at b1
    exact Args.inj (g := gOf K mg gl N ms vs) ar ei ej a1 b1
  · unfold L2.start
    simp only [List.length_append, List.length_map, List.length_replicate]
    omega
  · obtain ⟨i, a, w, e, es, oa⟩ := o
    obtain ⟨v, e1, _, e3⟩ := Args.at (g := gOf K mg gl N ms vs) ar (env_at e)
    rw [start_at e1] at es
    cases es
    rcases Args.no2 ar (env_at e) with ⟨d, rfl⟩ | ⟨d, rfl⟩
    · exact e3 d p rfl oa
    · exact oa.elim
/-- from the evaluator's answer to the body's reading -/
theorem body_reads {vs : List V} {H : Hp} {Q : VK} {E : XK} (hs : d.slots = N.length) (hn : ms.length ≤ N.length) (h : spF K mg gl ms (runDef sg call ms d) vs H Q E) :
    semS (gOf K mg gl N ms vs) sg call (fun cls dd _ H' => E cls dd H') d.body { nx := fun _ H' => Q .non H', rt := Q } (L2.start N vs) H := by
  obtain ⟨Mu, ss, ps, mh, ar, hr⟩ := h
  obtain ⟨l1, l2⟩ := ar.length
  obtain ⟨st, ow⟩ := sta_start (mg := mg) (gl := gl) mh ar hn
  refine ⟨_, Mu, st, ?_⟩
  unfold runDef at hr
  rw [if_pos l2, hs] at hr
  generalize hE : ss.map some ++ List.replicate (N.length - ss.length) none = env0 at hr st ow
  -- what stands there at the end
  have fins : ∀ {e : Env} {fin : List Sl} {σ' : L2.St} {H' : Hp} {Mu' : Addr → Prop}, finOf ms e = some fin → Post (gOf K mg gl N ms vs) env0 (L2.start N vs) H Mu e σ' H' Mu' → Out K H Mu ms vs ps H' Mu' fin := fun {e fin σ' H' Mu'} hf P => by
    refine ⟨P.fr.more ow, P.st.mh, fins_of (g := gOf K mg gl N ms vs) (fun i d' e1 e2 => ?_) hf l1⟩
    obtain ⟨v, e3, e4⟩ := P.st.sl i _ e1
    have e5 := P.st.pin i (by simpa using pins_at (o := 0) e2)
    have hi : i < vs.length := by
      rw [l1]
      exact (List.getElem?_eq_some_iff.mp e2).1
    have e6 : vs[i]? = some vs[i] := List.getElem?_eq_getElem hi
    rw [e3] at e5
    have e7 : some (some v) = (L2.start N vs)[i]? := e5
    rw [start_at e6] at e7
    have e8 : v = vs[i] := Option.some.inj (Option.some.inj e7)
    rw [← e8] at e6
    exact ⟨v, e6, e4⟩
  cases hS : (den sg call (pinsOf ms 0) d.body).S env0 with
  | bad => rw [hS] at hr; exact hr.elim
  | ex x e =>
    rw [hS] at hr
    cases hf : finOf ms e with
    | none => simp only [hf] at hr
    | some fin =>
      simp only [hf] at hr
      exact fun cls dd σ' H' Mu' xo P => hr cls dd H' Mu' (fins hf P) xo
  | ok fl e =>
    rw [hS] at hr
    cases fl with
    | bk => exact hr.elim
    | ct => exact hr.elim
    | nx =>
      cases hf : finOf ms e with
      | none => simp only [hf] at hr
      | some fin =>
        simp only [hf] at hr
        exact fun σ' H' Mu' P => hr .non H' Mu' (fins hf P) .non fun _ z => nomatch z
    | rt s =>
      cases hf : finOf ms e with
      | none => simp only [hf] at hr
      | some fin =>
        simp only [hf] at hr
        refine fun v σ' H' Mu' P ok og => hr v H' Mu' (fins hf P) ?_ fun dd es p ev => ?_
        · refine (SlOk.bare (g := gOf K mg gl N ms vs) rfl).mp ?_
          cases s with
          | own dd => exact ok.1
          | imm dd => exact ok
          | exc x => exact ok
          | own2 dd => exact ok.elim
        · subst es
          rcases og p ev with o | z
          · obtain ⟨k, k1, k2⟩ := ar.pl (ow p o)
            obtain ⟨d2, e2⟩ := fin_own hf k1
            have e5 := P.st.pin k (by simpa using pins_at (o := 0) k1)
            have e6 : σ'[k]? = some (some (.ref p)) := e5.trans (start_at k2)
            exact (ok.2 p ev (Own.mk e2 e6)).elim
          · exact z
end

section
variable {X : Cx} {g : Gx} {sg : Sig} {call : Call} {W : WX} {as : C} {ea : Expr} {es : List Expr} {pos p : Pos} {f : Str}
/-- what is known of a def that is called -/
structure Callee (X : Cx) (g : Gx) (sg : Sig) (call : Call) (n : Nat) (f : Str) : Prop where
  ex : ∃ (ms : List Bool) (fa : Addr) (fd : FuncData) (ps : List Str), sg.modes.lookup f = some ms ∧ FnG X.prog X.w X.K X.mg X.base n fa fd ps (spF g.K g.mg g.gl ms (call f)) ∧ X.mg f = some (.ref fa) ∧ PySem.W.keepIn X.K (.ref fa) = true ∧ L2.Binds X.K fd ps []
theorem s_call {n : Nat} (k : Ctx X g W) (hr : Room n X.A) (ce : Callee X g sg call n f) (hpn : g.pn = []) (hg : Gl X f) (hdb : (f == ("__debug__" : Str)) = false) (hs : (ea :: es).all noStar = true) (ha : PA X (ea :: es) (semA g sg call W as)) :
    PE X (.Call (.Name f p) (ea :: es) [] pos) (semE g sg call W (.call f as)) := by
  obtain ⟨ms, fa, fd, ps0, hms, F, hm, hk, hb⟩ := ce.ex
  refine PE.imp (fun σ H Q hq => ?_) (pe_callG F k.gd hr hg hm hk hb k.tk hs ha hdb)
  obtain ⟨env, Mu, st, hw⟩ := hq
  simp only [den, ofE, wpR_bind] at hw
  refine semA_of st hw (fun _ _ x => x) fun ts env1 vs H1 M1 P1 o1 hw => ?_
  simp only [callM, wpR_bind] at hw
  obtain ⟨ms', e', hw⟩ := wpR_lift.mp hw
  rw [hms] at e'
  cases e'
  obtain ⟨ss, env2, M2, ps, hw, P2, ar, ow, le⟩ := pass_ok P1.st o1 hw
  have P12 := P1.trans st P2
  refine ⟨M2, ss, ps, P2.st.mh, ar, ?_⟩
  -- behind the call: the slots that were lent are back
  have behind : ∀ {H' : Hp} {Mu' : Addr → Prop} {fin : List Sl} {R : Unit → Env → Prop} {Er : Exn → Env → Prop}, Out g.K H1 M2 ms vs ps H' Mu' fin → wpR (back ms ts fin env2) R Er → ∃ env3, R () env3 ∧ Post g env σ H Mu env3 σ H' Mu' ∧ ∀ q, Own H' env3 σ q → H1 q ≠ none := by
    intro H' Mu' fin R Er ⟨fr, mh', fi⟩ hb
    have no2 : ∀ q, Own H1 env2 σ q → ¬ q ∈ ps := fun q o hq => (ow q hq).2 o
    have st2 : Sta g env2 σ H' Mu' := P2.st.up fr no2 mh'
    obtain ⟨env3, r, st3, ow3⟩ := back_ok ms le st2 fi ar (fun q hq o => (ow q hq).2 (P2.st.own_up fr no2 o)) hb
    have lift : ∀ q, Own H' env3 σ q → Own H1 env1 σ q := fun q o => (ow3 q o).elim (fun o => (P2.sub q (P2.st.own_up fr no2 o)).elim id fun z => absurd z (P2.st.own_some (P2.st.own_up fr no2 o)).1) fun hq => (ow q hq).1
    refine ⟨env3, r, P1.trans st ⟨st3, ?_, fun q o => .inl (lift q o)⟩, fun q o => (P1.st.own_some (lift q o)).1⟩
    exact P2.fr.trans P1.st.mh fr fun q hq => .inl (ow q hq).1
  cases hc : call f ss with
  | bad =>
    simp only [hc] at hw
    exact hw.elim
  | ok s fin =>
    simp only [hc, wpR_bind] at hw
    refine fun v H' Mu' o hsl hfr => ?_
    obtain ⟨env3, r, P3, on⟩ := behind o hw
    have this := (SlOk.bare (g := g) hpn).mpr hsl
    cases s with
    | own2 dd => exact r.elim
    | own dd => exact (show _ from r) v H' Mu' P3 ⟨this, fun q e oq => on q oq (hfr dd rfl q e)⟩ fun q e => .inr (Classical.byContradiction fun z => P1.fr.e q z (hfr dd rfl q e))
    | imm dd => exact (show _ from r) v H' Mu' P3 this trivial
    | exc x => exact (show _ from r) v H' Mu' P3 this trivial
  | ex x fin =>
    simp only [hc] at hw
    refine fun cls dd H' Mu' o xo => ?_
    cases hbk : back ms ts fin env2 with
    | ok u e3 =>
      simp only [hbk] at hw
      obtain ⟨env3, r, P3, _⟩ := behind (R := fun _ e => e = e3) (Er := fun _ _ => False) o (by rw [hbk]; exact rfl)
      subst r
      exact hw cls dd σ H' Mu' xo P3
    | ex x e3 =>
      simp only [hbk] at hw
      exact hw.elim
    | bad =>
      simp only [hbk] at hw
      exact hw.elim
end
end Ev
end
section
namespace Ev
open PySem PySem.Spec PyProof.Rows L2

/-- the scope where a piece of text stands; the names whose cells were made at its entry -/
structure Cxt where
  sc : Scope
  fn : Str → Bool
def vis (sc : Scope) (x : Str) : Bool := match sc.names.lookup x with
  | some .local => true
  | some .cell => true
  | some .free => true
  | _ => false
def isGl (sc : Scope) (x : Str) : Bool := match sc.names.lookup x with
  | some .globalImplicit => !(x == ("__debug__" : Str))
  | _ => false
def nameOk (N : List Str) (cx : Cxt) (i : Nat) (x : Str) : Bool := decide (N[i]? = some x) && vis cx.sc x && !(x == ("__debug__" : Str)) && !(x == ("__classdict__" : Str))
def isLocal (sc : Scope) (x : Str) : Bool := match sc.names.lookup x with
  | some .local => true
  | _ => false
def isCell (sc : Scope) (x : Str) : Bool := match sc.names.lookup x with
  | some .cell => true
  | _ => false
def locOk (N : List Str) (cx : Cxt) (i : Nat) (x : Str) : Bool := decide (N[i]? = some x) && (isLocal cx.sc x || (isCell cx.sc x && cx.fn x))
/-- tests that are just their value -/
def plainT : Expr → Bool
  | .Name _ _ => true
  | .Call _ _ _ _ => true
  | .Subscript _ _ _ => true
  | .Constant _ _ _ => true
  | _ => false
def isComp : Expr → Bool
  | .ListComp _ _ _ _ => true
  | .SetComp _ _ _ _ => true
  | .DictComp _ _ _ _ _ => true
  | _ => false
def isSet : Expr → Bool
  | .Set _ _ _ => true
  | _ => false
def isTuple : Expr → Bool
  | .Tuple _ _ _ => true
  | .List _ _ => true
  | _ => false
def swNames (sc : Scope) (ts : List Expr) : List Str := ts.filterMap fun
  | .Name id pos => if sc.names.lookup id == some .local && pos.line == (ts.head?.map (·.pos.line)).getD 0 then some id else none
  | _ => none
def swAny (sc : Scope) (ts vs : List Expr) : Option (List Str) :=
  if !(ts.length == 2 || ts.length == 3) || vs.length != ts.length then none
  else if vs.any (fun e => !noStar e) then none
  else if (swNames sc ts).length != ts.length || (swNames sc ts).eraseDups.length != (swNames sc ts).length then none
  else if vs.all (foldedForSure 8) then none
  else some (swNames sc ts)
/-- pieces that stand for a value -/
def isV : C → Bool
  | .var _ | .mov _ | .int _ | .bl _ | .non | .str _ | .glob _ | .bin _ _ _ | .neg _ | .cmp _ _ _ | .chain _ _ _ _ _ | .and _ _ | .or _ _ | .not _ | .ite _ _ _ | .call _ _ | .bi _ _ | .tup _ | .lst _ | .idx _ _ | .slc _ _ _ | .mxd _ _ | .isi _ _ | .lrv _ | .lrg _ _ | .lr1 _ | .popE _ | .lc _ _ _ _ _ | .rv1 _ => true
  | _ => false
def isNo : C → Bool
  | .no => true
  | _ => false
def isKil : C → Bool
  | .kil _ => true
  | _ => false
theorem isKil_eq {c : C} (h : isKil c = true) : ∃ js, c = .kil js := by
  cases c <;> first | exact ⟨_, rfl⟩ | cases h
def gsLen : C → Nat
  | .cons _ as => gsLen as + 1
  | _ => 0
structure Chk where
  E : Cxt → Expr → Bool := fun _ _ => false
  T : Cxt → Expr → Bool := fun _ _ => false
  Wt : Cxt → Expr → Bool := fun _ _ => false
  A : Cxt → List Expr → Bool := fun _ _ => false
  O : Cxt → Option Expr → Bool := fun _ _ => false
  I : Cxt → Expr → Expr → Bool := fun _ _ _ => false
  G : Cxt → Expr → Bool := fun _ _ => false
  Gs : Cxt → List Expr → Bool := fun _ _ => false
  S : Cxt → Stmt → Bool := fun _ _ => false
  B : Cxt → List Stmt → Bool := fun _ _ => false
/-- what a value's piece is, as a test, as a slice's bound -/
def ofV (E : Cxt → Expr → Bool) : Chk := { E := E, T := fun cx e => plainT e && E cx e, O := fun cx o => match o with | some e => E cx e | none => false }
def cmpOp (o : CmpOp) (c : Cop) : Bool := decide (o = opC c)
/-- a class that an except clause may name -/
def clsOk (sg : Sig) (c : Str) : Bool := !sg.excs.isEmpty && (decide (c = "RestError") || (sg.excs.lookup c).isSome)
def jOk (N : List Str) (cx : Cxt) : Option Nat → Option Str → Bool
  | some j, some x => decide (N[j]? = some x) && isLocal cx.sc x && !(x == ("__debug__" : Str)) && !(x == ("__classdict__" : Str))
  | none, none => true
  | _, _ => false
def heB (cx : Cxt) (nm : Option Str) : HE → Expr → Bool
  | .con (.int n), .Constant (.int m) _ _ => decide (m = n)
  | .con (.bool n), .Constant (.bool m) _ _ => decide (m = n)
  | .con .none, .Constant .none _ _ => true
  | .con (.str n), .Constant (.str m) _ _ => decide (m = n)
  | .fld f, .Attribute (.Name y _) g _ => decide (g = f) && decide (nm = some y)
  | _, _ => false
def hesB (cx : Cxt) (nm : Option Str) : List HE → List Expr → Bool
  | [], [] => true
  | h :: hs, e :: es => noStar e && heB cx nm h e && hesB cx nm hs es
  | _, _ => false
def hvB (sg : Sig) (cx : Cxt) (nm : Option Str) : HV → Expr → Bool
  | .one h, e => heB cx nm h e
  | .tup hs, .Tuple es _ _ => hesB cx nm hs es
  | .ref f, .Call (.Name g _) [.Name y _] [] _ => decide (g = f) && decide (nm = some y) && isGl cx.sc f && (sg.refs.lookup f).isSome
  | _, _ => false
def suB (N : List Str) (sg : Sig) (cx : Cxt) (nm : Option Str) (su : Hs) : Stmt → Bool
  | .Assign [.Name x _] e _ => (match su.tgt with
    | some i => locOk N cx i x && !isComp e && hvB sg cx nm su.v e
    | none => false)
  | .Return (some e) _ => su.tgt.isNone && hvB sg cx nm su.v e
  | _ => false
def blkCx (scope : Scope) (cx : Cxt) : Cxt := ⟨relS scope cx.sc, fun x => scope.names.lookup x == some .cell⟩
def ownOf (N : List Str) (vs : List Nat) : List (Str × Nat) := vs.map fun i => ((N[i]?).getD "", i)
def chk (N : List Str) (sg : Sig) (bl : List Str) : C → Chk
  | .var i => ofV fun cx e => match e with
    | .Name x _ => nameOk N cx i x
    | _ => false
  | .mov i => ofV fun cx e => match e with
    | .Name x _ => nameOk N cx i x
    | _ => false
  | .int n => ofV fun _ e => match e with
    | .Constant (.int m) _ _ => decide (m = n)
    | _ => false
  | .bl b => ofV fun _ e => match e with
    | .Constant (.bool c) _ _ => decide (c = b)
    | _ => false
  | .non => ofV fun _ e => match e with
    | .Constant .none _ _ => true
    | _ => false
  | .str s => ofV fun _ e => match e with
    | .Constant (.str t) _ _ => decide (t = s)
    | _ => false
  | .glob x => ofV fun cx e => match e with
    | .Name y _ => decide (y = x) && isGl cx.sc x && (sg.globs.lookup x).isSome
    | _ => false
  | .bin op a b => ofV fun cx e => match e with
    | .BinOp x o y _ => decide (o = opB op) && isV a && isV b && (chk N sg bl a).E cx x && (chk N sg bl b).E cx y
    | _ => false
  | .neg a => ofV fun cx e => match e with
    | .UnaryOp .USub x _ => isV a && (chk N sg bl a).E cx x
    | _ => false
  | .cmp op a b =>
    let E := fun (cx : Cxt) (e : Expr) => match e with
    | .Compare x [o] [y] _ => cmpOp o op && isV a && isV b && !behindInMarks o y && (chk N sg bl a).E cx x && (chk N sg bl b).E cx y
    | _ => false
    { ofV E with T := E }
  | .chain o1 o2 a b c =>
    let E := fun (cx : Cxt) (e : Expr) => match e with
    | .Compare x [p, q] [y, z] _ => cmpOp p o1 && cmpOp q o2 && isV a && isV b && isV c && !lastMarks [p, q] [y, z] && (chk N sg bl a).E cx x && (chk N sg bl b).E cx y && (chk N sg bl c).E cx z
    | _ => false
    { ofV E with T := E }
  | .and a b =>
    let E := fun (cx : Cxt) (e : Expr) => match e with
    | .BoolOp .And [x, y] _ => isV a && isV b && (chk N sg bl a).E cx x && (chk N sg bl b).E cx y
    | .BoolOp .And (x :: y :: z :: r) p => isV a && isV b && (chk N sg bl a).E cx x && (chk N sg bl b).E cx (.BoolOp .And (y :: z :: r) p)
    | _ => false
    let T := fun (cx : Cxt) (e : Expr) => match e with
    | .BoolOp .And [x, y] _ => (chk N sg bl a).T cx x && (chk N sg bl b).T cx y
    | .BoolOp .And (x :: y :: z :: r) p => (chk N sg bl a).T cx x && (chk N sg bl b).Wt cx (.BoolOp .And (y :: z :: r) p)
    | _ => false
    { ofV E with T := T, Wt := T }
  | .or a b =>
    let E := fun (cx : Cxt) (e : Expr) => match e with
    | .BoolOp .Or [x, y] _ => isV a && isV b && (chk N sg bl a).E cx x && (chk N sg bl b).E cx y
    | .BoolOp .Or (x :: y :: z :: r) p => isV a && isV b && (chk N sg bl a).E cx x && (chk N sg bl b).E cx (.BoolOp .Or (y :: z :: r) p)
    | _ => false
    let T := fun (cx : Cxt) (e : Expr) => match e with
    | .BoolOp .Or [x, y] _ => (chk N sg bl a).T cx x && (chk N sg bl b).T cx y
    | .BoolOp .Or (x :: y :: z :: r) p => (chk N sg bl a).T cx x && (chk N sg bl b).Wt cx (.BoolOp .Or (y :: z :: r) p)
    | _ => false
    { ofV E with T := T, Wt := T }
  | .not a =>
    let E := fun (cx : Cxt) (e : Expr) => match e with
    | .UnaryOp .Not x _ => isV a && (chk N sg bl a).E cx x
    | _ => false
    let T := fun (cx : Cxt) (e : Expr) => match e with
    | .UnaryOp .Not x _ => (chk N sg bl a).T cx x
    | _ => false
    { ofV E with T := T }
  | .ite c a b => { ofV (fun cx e => match e with
    | .IfExp t x y _ => isV a && isV b && (chk N sg bl c).T cx t && (chk N sg bl a).E cx x && (chk N sg bl b).E cx y
    | _ => false) with T := fun _ _ => false }
  | .call f as => ofV fun cx e => match e with
    | .Call (.Name x _) (y :: ys) [] _ => decide (x = f) && isGl cx.sc f && (sg.modes.lookup f).isSome && (y :: ys).all noStar && (chk N sg bl as).A cx (y :: ys)
    | _ => false
  | .bi f as => ofV fun cx e => match e with
    | .Call (.Name x _) (y :: ys) [] _ => decide (x = f.name) && isGl cx.sc f.name && bl.contains f.name && (y :: ys).all noStar && (chk N sg bl as).A cx (y :: ys)
    | _ => false
  | .tup as => ofV fun cx e => match e with
    | .Tuple es _ _ => (chk N sg bl as).A cx es
    | _ => false
  | .lst as => ofV fun cx e => match e with
    | .List es _ => (chk N sg bl as).A cx es
    | _ => false
  | .idx a i => ofV fun cx e => match e with
    | .Subscript x y _ => isV a && isV i && plainIx y && (chk N sg bl a).E cx x && (chk N sg bl i).E cx y
    | _ => false
  | .slc a lo hi => ofV fun cx e => match e with
    | .Subscript x (.Slice l h none _) _ => isV a && (isV lo || isNo lo) && (isV hi || isNo hi) && (chk N sg bl a).E cx x && (chk N sg bl lo).O cx l && (chk N sg bl hi).O cx h
    | _ => false
  | .mxd a b => ofV fun cx e => match e with
    | .Call (.Name x _) [y] [⟨some k, z, _⟩] _ => decide (x = ("max" : Str)) && decide (k = ("default" : Str)) && isGl cx.sc "max" && bl.contains "max" && noStar y && isV a && isV b && (chk N sg bl a).E cx y && (chk N sg bl b).E cx z
    | _ => false
  | .isi a t => ofV fun cx e => match e with
    | .Call (.Name x _) [y, .Name z _] [] _ => decide (x = ("isinstance" : Str)) && isGl cx.sc "isinstance" && bl.contains "isinstance" && decide (z = t.name) && isGl cx.sc t.name && bl.contains t.name && noStar y && isV a && (chk N sg bl a).E cx y
    | _ => false
  | .lrv a => ofV fun cx e => match e with
    | .Call (.Name x _) [.Call (.Name z _) [y] [] _] [] _ => decide (x = ("list" : Str)) && isGl cx.sc "list" && bl.contains "list" && decide (z = ("reversed" : Str)) && isGl cx.sc "reversed" && bl.contains "reversed" && noStar y && isV a && (chk N sg bl a).E cx y
    | _ => false
  | .lrg a b => ofV fun cx e => match e with
    | .Call (.Name x _) [.Call (.Name z _) [y, y2] [] _] [] _ => decide (x = ("list" : Str)) && isGl cx.sc "list" && bl.contains "list" && decide (z = ("range" : Str)) && isGl cx.sc "range" && bl.contains "range" && noStar y && noStar y2 && isV a && isV b && (chk N sg bl a).E cx y && (chk N sg bl b).E cx y2
    | _ => false
  | .lr1 a => ofV fun cx e => match e with
    | .Call (.Name x _) [.Call (.Name z _) [y] [] _] [] _ => decide (x = ("list" : Str)) && isGl cx.sc "list" && bl.contains "list" && decide (z = ("range" : Str)) && isGl cx.sc "range" && bl.contains "range" && noStar y && isV a && (chk N sg bl a).E cx y
    | _ => false
  | .popE i => ofV fun cx e => match e with
    | .Call (.Attribute (.Name x _) m p2) [] [] p3 => decide (m = ("pop" : Str)) && nameOk N cx i x && (p2.endLine == p3.line)
    | _ => false
  | .lc vs tg it cond body => ofV fun cx e => match e with
    | .ListComp elt [⟨tgx, itx, ifs, 0⟩] scope _ =>
      blkC N cx.sc scope (ownOf N vs) && !isSet itx && (tgS tg).all (fun j => vs.contains j) && (chk N sg bl it).I cx tgx itx && (chk N sg bl tg).G (blkCx scope cx) tgx &&
        (match ifs with
          | [] => isNo cond
          | [c] => (chk N sg bl cond).T (blkCx scope cx) c
          | _ => false) && isV body && (chk N sg bl body).E (blkCx scope cx) elt
    | _ => false
  | .nil => { A := fun _ es => es.isEmpty, Gs := fun _ es => es.isEmpty }
  | .cons a as => { A := fun cx es => match es with
      | y :: ys => noStar y && isV a && (chk N sg bl a).E cx y && (chk N sg bl as).A cx ys
      | [] => false,
                    Gs := fun cx es => match es with
      | y :: ys => noStar y && (chk N sg bl a).G cx y && (chk N sg bl as).Gs cx ys
      | [] => false }
  | .no => { O := fun _ o => o.isNone }
  | .iE a => { I := fun cx _ e => isV a && (chk N sg bl a).E cx e }
  | .iR1 a => { I := fun cx _ e => match e with
      | .Call (.Name x _) [y] [] _ => decide (x = ("range" : Str)) && isGl cx.sc "range" && bl.contains "range" && noStar y && isV a && (chk N sg bl a).E cx y
      | _ => false }
  | .iR2 a b => { I := fun cx _ e => match e with
      | .Call (.Name x _) [y, z] [] _ => decide (x = ("range" : Str)) && isGl cx.sc "range" && bl.contains "range" && noStar y && noStar z && isV a && isV b && (chk N sg bl a).E cx y && (chk N sg bl b).E cx z
      | _ => false }
  | .iR3 a b c => { I := fun cx _ e => match e with
      | .Call (.Name x _) [y, z, u] [] _ => decide (x = ("range" : Str)) && isGl cx.sc "range" && bl.contains "range" && noStar y && noStar z && noStar u && isV a && isV b && isV c && (chk N sg bl a).E cx y && (chk N sg bl b).E cx z && (chk N sg bl c).E cx u
      | _ => false }
  | .iEn a => { I := fun cx tg e => match tg, e with
      | .Tuple _ _ _, .Call (.Name x _) [y] [] _ => decide (x = ("enumerate" : Str)) && isGl cx.sc "enumerate" && bl.contains "enumerate" && noStar y && isV a && (chk N sg bl a).E cx y
      | _, _ => false }
  | .iZp a b => { I := fun cx tg e => match tg, e with
      | .Tuple _ _ _, .Call (.Name x _) [y, z] [] _ => decide (x = ("zip" : Str)) && isGl cx.sc "zip" && bl.contains "zip" && noStar y && noStar z && isV a && isV b && (chk N sg bl a).E cx y && (chk N sg bl b).E cx z
      | _, _ => false }
  | .iRv a => { I := fun cx _ e => match e with
      | .Call (.Name x _) [y] [] _ => decide (x = ("reversed" : Str)) && isGl cx.sc "reversed" && bl.contains "reversed" && noStar y && isV a && (chk N sg bl a).E cx y
      | _ => false }
  | .iRR a => { I := fun cx _ e => match e with
      | .Call (.Name x _) [.Call (.Name x2 _) [y] [] _] [] _ => decide (x = ("reversed" : Str)) && isGl cx.sc "reversed" && bl.contains "reversed" && decide (x2 = ("range" : Str)) && isGl cx.sc "range" && bl.contains "range" && noStar y && isV a && (chk N sg bl a).E cx y
      | _ => false }
  | .tN i => { G := fun cx e => match e with
      | .Name x _ => locOk N cx i x
      | _ => false }
  | .tT ts => { G := fun cx e => match e with
      | .Tuple es _ _ => es.all noStar && decide (gsLen ts = es.length) && (chk N sg bl ts).Gs cx es
      | _ => false }
  | .sNil => { B := fun _ ss => ss.isEmpty }
  | .sCons s r => { B := fun cx ss => if isKil s then (chk N sg bl r).B cx ss else (match ss with
      | x :: xs => (chk N sg bl s).S cx x && (chk N sg bl r).B cx xs
      | [] => false) }
  | .kil _ => {}
  | .set i e => { S := fun cx st => match st with
      | .Assign [.Name x p] ea pos => locOk N cx i x && isV e && (chk N sg bl e).E cx ea &&
          (match ea with
            | .ListComp _ _ s vp => !(isLocal cx.sc x && p.line == vp.line && !(s.names.any fun (n, k) => n == x && (k == .local || k == .cell))) || (pos.line == p.line)
            | e => !isComp e)
      | _ => false }
  | .asg tg e => { S := fun cx st => match st with
      | .Assign [t] ea _ => isV e && (chk N sg bl e).E cx ea && (chk N sg bl tg).G cx t &&
          (match t, ea with
            | .Tuple ts _ _, .Tuple vs _ _ => (swAny cx.sc ts vs).isNone
            | .Tuple _ _ _, _ => true
            | _, _ => false)
      | _ => false }
  | .par i j a b => { S := fun cx st => match st with
      | .Assign [.Tuple [.Name x px, .Name y py] kt pt] (.Tuple [ea, eb] k2 pt2) _ => decide (i ≠ j) && decide (N[i]? = some x) && decide (N[j]? = some y) && isLocal cx.sc x && isLocal cx.sc y && noStar ea && noStar eb && isV a && isV b && (chk N sg bl a).E cx ea && (chk N sg bl b).E cx eb &&
          decide (swAny cx.sc [.Name x px, .Name y py] [ea, eb] = some [x, y]) && !([ea, eb].all (constantsAlone 8))
      | _ => false }
  | .par3 _ _ _ _ _ _ => {}
  | .lc2 i vs tg it cond body => { S := fun cx st => match st with
      | .Assign [.Name x p] (.ListComp elt [⟨tgx, itx, ifs, 0⟩] scope vp) pos => locOk N cx i x && blkC N cx.sc scope (ownOf N vs) && !isSet itx && (tgS tg).all (fun j => vs.contains j) && (chk N sg bl it).I cx tgx itx && (chk N sg bl tg).G (blkCx scope cx) tgx &&
        (match ifs with
          | [] => isNo cond
          | [c] => (chk N sg bl cond).T (blkCx scope cx) c
          | _ => false) && (chk N sg bl body).E (blkCx scope cx) elt &&
        ((!(isLocal cx.sc x && p.line == vp.line && !(scope.names.any fun (n, k) => n == x && (k == .local || k == .cell)))) || (pos.line == p.line))
      | _ => false }
  | .lend h i ix body => { B := fun cx ss => match ss with
      | .Assign [.Name x _] (.Subscript (.Name y _) ib _) _ :: rest => decide (h ≠ i) && locOk N cx h x && nameOk N cx i y && plainIx ib && isV ix && (chk N sg bl ix).E cx ib && (chk N sg bl body).B cx rest
      | _ => false }
  | .st2 i ix jx e => { S := fun cx st => match st with
      | .Assign [.Subscript (.Subscript (.Name x _) ib _) jb _] ea _ => nameOk N cx i x && plainIx ib && plainIx jb && isV ix && isV jx && isV e && (chk N sg bl ix).E cx ib && (chk N sg bl jx).E cx jb && (chk N sg bl e).E cx ea
      | _ => false }
  | .new2 i => { S := fun cx st => match st with
      | .Assign [.Name x _] (.List [] _) _ => locOk N cx i x
      | _ => false }
  | .app2 i e => { S := fun cx st => match st with
      | .Expr (.Call (.Attribute (.Name x _) m p2) [ea] [] p3) _ => decide (m = ("append" : Str)) && nameOk N cx i x && (p2.endLine == p3.line) && noStar ea && isV e && (chk N sg bl e).E cx ea
      | _ => false }
  | .appL i ix e => { S := fun cx st => match st with
      | .Expr (.Call (.Attribute (.Subscript (.Name x _) ib _) m p2) [ea] [] p3) _ => decide (m = ("append" : Str)) && nameOk N cx i x && plainIx ib && isV ix && (p2.endLine == p3.line) && noStar ea && isV e && (chk N sg bl ix).E cx ib && (chk N sg bl e).E cx ea
      | _ => false }
  | .stI i ix e => { S := fun cx st => match st with
      | .Assign [.Subscript (.Name x _) ib _] ea _ => nameOk N cx i x && plainIx ib && isV ix && isV e && (chk N sg bl ix).E cx ib && (chk N sg bl e).E cx ea
      | _ => false }
  | .app i e => { S := fun cx st => match st with
      | .Expr (.Call (.Attribute (.Name x _) m p2) [ea] [] p3) _ => decide (m = ("append" : Str)) && nameOk N cx i x && (p2.endLine == p3.line) && noStar ea && isV e && (chk N sg bl e).E cx ea
      | _ => false }
  | .extd i e => { S := fun cx st => match st with
      | .Expr (.Call (.Attribute (.Name x _) m p2) [ea] [] p3) _ => decide (m = ("extend" : Str)) && nameOk N cx i x && (p2.endLine == p3.line) && noStar ea && isV e && (chk N sg bl e).E cx ea
      | _ => false }
  | .popS i => { S := fun cx st => match st with
      | .Expr (.Call (.Attribute (.Name x _) m p2) [] [] p3) _ => decide (m = ("pop" : Str)) && nameOk N cx i x && (p2.endLine == p3.line)
      | _ => false }
  | .exS e => { S := fun cx st => match st with
      | .Expr ea _ => !isComp ea && isV e && (chk N sg bl e).E cx ea
      | _ => false }
  | .ifS c a b => { S := fun cx st => match st with
      | .If t x y _ => (chk N sg bl c).T cx t && (chk N sg bl a).B cx x && (chk N sg bl b).B cx y
      | _ => false }
  | .forS tg it body => { S := fun cx st => match st with
      | .For t i x [] _ => !isSet i && (chk N sg bl it).I cx t i && (chk N sg bl tg).G cx t && (chk N sg bl body).B cx x
      | _ => false }
  | .whl _ c body => { S := fun cx st => match st with
      | .While t x [] _ => (chk N sg bl c).T cx t && (chk N sg bl body).B cx x
      | _ => false }
  | .ret e => { S := fun cx st => match st with
      | .Return (some ea) _ => isV e && (chk N sg bl e).E cx ea
      | _ => false }
  | .retN => { S := fun _ st => match st with
      | .Return none _ => true
      | _ => false }
  | .brk => { S := fun _ st => match st with
      | .Break _ => true
      | _ => false }
  | .cnt => { S := fun _ st => match st with
      | .Continue _ => true
      | _ => false }
  | .pass => { S := fun _ st => match st with
      | .Pass _ => true
      | _ => false }
  | .never => { S := fun _ _ => true }
  | .rse x as => { S := fun cx st => match st with
      | .Raise (some (.Call (.Name y _) (e1 :: es) [] _)) none _ => decide (y = x) && isGl cx.sc x && (sg.excs.lookup x).isSome && (e1 :: es).all noStar && (chk N sg bl as).A cx (e1 :: es)
      | _ => false }
  | .tryS body c j su => { S := fun cx st => match st with
      | .Try bd [.ExceptHandler (some (.Name y _)) nm [s1] _] [] [] _ => decide (y = c) && isGl cx.sc c && clsOk sg c && (chk N sg bl body).B cx bd && jOk N cx j nm && suB N sg cx nm su s1
      | _ => false }
  | .rv1 a => ofV fun cx e => match e with
      | .Subscript x (.Slice none none (some (.UnaryOp .USub (.Constant (.int 1) _ _) _)) _) _ => isV a && (chk N sg bl a).E cx x
      | _ => false
end Ev
end
section
namespace Ev
open PySem PySem.Spec PyProof.Rows L2
theorem rev_filt {α : Type} (xs : List α) : ∀ k : Nat, k ≤ xs.length → (List.range k).filterMap (fun (m : Nat) => xs[k - 1 - m]?) = (xs.take k).reverse := by
  intro k
  induction k with
  | zero => intro _; rfl
  | succ k ih =>
    intro hk
    rw [List.range_succ_eq_map, List.filterMap_cons, List.filterMap_map]
    have e0 : xs[k + 1 - 1 - 0]? = some xs[k] := List.getElem?_eq_getElem (by omega)
    rw [e0]
    have e1 : ((fun (m : Nat) => xs[k + 1 - 1 - m]?) ∘ Nat.succ) = fun (m : Nat) => xs[k - 1 - m]? := by
      funext m
      show xs[k + 1 - 1 - (m + 1)]? = _
      congr 1
      omega
    rw [e1, ih (by omega), List.take_succ_eq_append_getElem (by omega), List.reverse_append]
    rfl
theorem rev_filtA (xs : Array Value) : ((List.range xs.size).filterMap fun (m : Nat) => xs[(((xs.size : Nat) : Int) - 1 + (m : Int) * (-1)).toNat]?).toArray = xs.toList.reverse.toArray := by
  congr 1
  have e : (fun (m : Nat) => xs[(((xs.size : Nat) : Int) - 1 + (m : Int) * (-1)).toNat]?) = fun m => xs.toList[xs.size - 1 - m]? := by
    funext m
    rw [Array.getElem?_toList]
    congr 1
    omega
  rw [e]
  have h := rev_filt xs.toList xs.size (by simp)
  rw [h, List.take_of_length_le (by simp)]
section
variable {prog : Program} {w : World} {A : Around} {E : Value → Shared → Prop} {s : Shared}
theorem rev_adj (n : Nat) : Builtin.Slice.sliceAdjust none none (-1) (n : Int) = ((n : Int) - 1, -1) := rfl
theorem rev_places (n : Nat) : Builtin.Slice.slicePlaces ((n : Int) - 1) (-1) (-1) = n := by
  unfold Builtin.Slice.slicePlaces
  have h1 : ¬ ((-1 : Int) > 0) := by decide
  simp only [h1, if_false]
  by_cases h : n = 0
  · subst h; rfl
  · have h2 : (n : Int) - 1 > -1 := by omega
    simp only [h2, if_true]
    have e : - (-1 : Int) = 1 := rfl
    rw [e, Int.ediv_one]
    omega
theorem applied_rev {sl : Addr} {u : Tok} {n : Nat} {Q : Int × Int × Nat → Shared → Prop} (hs : s.heap.IsSliceOf sl .none .none (.int (-1) u)) (h : Q ((n : Int) - 1, -1, n) s) : wpAny (model prog w) A (Builtin.Slice.sliceApplied (.ref sl) (pure (n : Int))) Q E s := by
  obtain ⟨oS, h1, h2, h3⟩ := id hs
  unfold Builtin.Slice.sliceApplied Builtin.Slice.sliceFields
  refine wpAny_bind (wpAny_bind (wpAny_field h1 h3 (x := .none) rfl (wpAny_bind (wpAny_field h1 h3 (x := .none) rfl (wpAny_bind (wpAny_field h1 h3 (x := .int (-1) u) rfl (wpAny_pure ?_)))))))
  refine wpAny_bind (slicePart_int ?_)
  show wpAny _ _ (if ((-1 : Int) == 0) = true then _ else _) _ _ s
  rw [if_neg (by decide)]
  refine wpAny_bind (slicePart_none (wpAny_bind (slicePart_none (wpAny_bind (wpAny_pure ?_)))))
  show wpAny _ _ (match Builtin.Slice.sliceAdjust none none (-1) (n : Int) with | (lo, hi) => pure (lo, (-1 : Int), Builtin.Slice.slicePlaces lo hi (-1))) _ _ s
  rw [rev_adj]
  show wpAny _ _ (pure ((n : Int) - 1, (-1 : Int), Builtin.Slice.slicePlaces ((n : Int) - 1) (-1) (-1))) _ _ s
  rw [rev_places]
  exact wpAny_pure h
theorem item_tuple_rev {t sl : Addr} {items : Array Value} {u : Tok} {Q : Value → Shared → Prop} (ht : IsTup s.heap t items) (hs : s.heap.IsSliceOf sl .none .none (.int (-1) u))
    (h : Q (.ref s.heap.objs.size) { s with heap := s.heap.push { cls := .type "tuple", data := .seq items.toList.reverse.toArray } }) (hz : items.size ≤ sizeLine) : wpAny (model prog w) A (getItem (.ref t) (.ref sl)) Q E s := by
  have fits : sizeOk (.seq items.toList.reverse.toArray) := by
    show items.toList.reverse.toArray.size ≤ sizeLine
    simpa using hz
  obtain ⟨oS, h1, h2, h3⟩ := id hs
  have tyS : s.TypeIs (.ref sl) "slice" := ⟨oS, h1, h2⟩
  unfold getItem
  (try with_reducible refine wpAny_holding ?_); (first | refine wpAny_bind (wpAny_pure ?_) | skip)
  refine wpAny_bind (wpAny_sequenceKey ht.typeIs (by decide) (wpAny_bind (wpAny_callSpecial?_slot (name := Str.ofString "__getitem__") ht.typeIs slot_tuple_getitem (wpAny_call_entry slot_tuple_getitem ht.typeIs entry_tuple_getitem ?_ (args_tuple_getitem _ _)))))
  show wpAny _ _ (Builtin.Tuple.tupleItemsOf (.ref t) >>= _) _ _ s
  refine wpAny_bind (tupleItemsOf_ ht (wpAny_bind (wpAny_typeOf tyS ?_)))
  rw [if_pos (by decide)]
  refine wpAny_bind (applied_rev (n := items.size) hs ?_)
  have no : ¬ (((((items.size : Nat) : Int) - 1 == 0) && ((-1 : Int) == 1) && (items.size == items.size)) = true) := by simp
  show wpAny _ _ (if ((((items.size : Nat) : Int) - 1 == 0) && ((-1 : Int) == 1) && (items.size == items.size)) = true then _ else _) _ _ s
  rw [if_neg no, rev_filtA]
  first
    | exact wpAny_bind (m := Builtin.Tuple.tupleExact _) (wpAny_newObj_type (wpAny_pure ⟨_, rfl, wpAny_pure h⟩) fits)
    | exact wpAny_bind (m := Builtin.Tuple.tupleExact _) (wpAny_newObj_type (wpAny_bind (wpAny_pure (wpAny_pure ⟨_, rfl, wpAny_pure h⟩))) fits)
    | exact wpAny_bind (wpAny_bind (m := Builtin.Tuple.tupleExact _) (wpAny_newObj_type (wpAny_pure (wpAny_pure ⟨_, rfl, wpAny_pure h⟩)) fits))
    | exact wpAny_bind (wpAny_bind (m := Builtin.Tuple.tupleExact _) (wpAny_newObj_type (wpAny_pure ⟨_, rfl, wpAny_pure h⟩) fits))
end
theorem pick_rev (its : Array Value) : slicePick its none none (some (-1)) = its.toList.reverse.toArray := by
  have e : sliceRange (sliceBounds none none (some (-1)) its.size).1 (sliceBounds none none (some (-1)) its.size).2.1 (sliceBounds none none (some (-1)) its.size).2.2 = (List.range its.size).map fun (m : Nat) => its.size - 1 - m := by
    show sliceRange ((its.size : Int) - 1) (-1) (-1) = _
    unfold sliceRange
    have h1 : ¬ ((-1 : Int) > 0) := by decide
    simp only [h1, if_false]
    have h2 : (if (its.size : Int) - 1 > -1 then ((its.size : Int) - 1 - (-1) - (-1) - 1) / (-(-1 : Int)) else 0).toNat = its.size := by
      have e : -(-1 : Int) = 1 := rfl
      rw [e, Int.ediv_one]
      split <;> omega
    rw [h2]
    refine List.map_congr_left fun m hm => ?_
    have := List.mem_range.mp hm
    omega
  unfold slicePick
  rw [e, List.filterMap_map]
  have h := rev_filt its.toList its.size (by simp)
  rw [List.take_of_length_le (by simp)] at h
  rw [← h]
  congr 2
  funext m
  show its[its.size - 1 - m]? = _
  rw [Array.getElem?_toList]
/-- xs[::-1] -/
def rRev (K : PySem.W.Frag) : V → Hp → VK → Prop := fun x H Q => ∃ a xs, x = .ref a ∧ ((SqL K H a xs ∧ ∀ p, H p = none → Q (.ref p) (upd H p (.lst xs.reverse))) ∨ (SqT K H a xs ∧ ∀ p, H p = none → Q (.ref p) (upd H p (.tup xs.reverse))))
theorem pe_rev {X : Cx} {e m1 : Expr} {te : TE} {pos p2 : Pos} (he : PE X e te) (hm : PO X (some m1) (tPart (fun _ H Q => Q (.int (-1)) H))) : PE X (.Subscript e (.Slice none none (some m1) p2) pos) (fun σ H Q => te σ H fun x H1 => rRev X.K x H1 Q) := by
  refine ⟨fun pins s σ H Q I h => ?_⟩
  refine Subscript_ (thn (he.run pins s σ H _ I h) fun v s1 ⟨x, H1, I1, r1, a, xs, ex, q1⟩ => ?_)
  refine wpAny_Slice ?_
  rw [evalPart_none]
  refine wpAny_pure (wpAny_pure (thn (hm.run pins s1 σ H1 (fun o H2 => o = some (-1) ∧ H2 = H1) I1 ⟨-1, rfl, rfl, rfl⟩) fun vu s3 ⟨o, H2, I3, pu, eo, e2⟩ => ?_))
  subst eo e2 ex
  obtain ⟨u, rfl⟩ : ∃ u, vu = .int (-1) u := by
    cases pu with
    | int i t => exact ⟨t, rfl⟩
  cases r1
  have I4 : Inv X pins σ H2 { s3 with heap := s3.heap.push { cls := .type "slice", data := .fields #[.none, .none, .int (-1) u] } } := I3.kept (t' := s3.toks) fun _ _ z => Heap.get?_push_of_some _ z
  show wpAny (model X.prog X.w) X.A (subscriptTail e (.Slice none none (some m1) p2) (.ref a) (.ref s3.heap.objs.size)) (EP X pins σ Q) X.xe _
  have isl := Heap.IsSliceOf.new s3.heap .none .none (.int (-1) u)
  rcases q1 with ⟨hl, q⟩ | ⟨ht, q⟩
  · obtain ⟨its, r, hi, hz⟩ := I4.list hl
    refine tail_any (ops := [.ref a, .ref s3.heap.objs.size]) hi.isList.typeIs slot_list_getitem.lookup ?_ (by with_unfolding_all rfl)
    refine wpAny_getItem_list_slice hi.isList isl .none .none (.int (-1) u) (by decide) ?_ (by rw [List.size_toArray, ← r.length]; exact hz)
    rw [pick_rev]
    refine ⟨.ref _, _, I4.laid (t' := s3.toks) (o := .lst xs.reverse) (fun _ _ z => Heap.get?_push_of_some _ z) (Nat.le_refl _) ?_, rfl, q _ (I4.hok.fresh (Nat.le_refl _))⟩
    exact ⟨by rw [List.length_reverse]; exact hz, _, 0, (by simpa using r.reverse), Heap.get?_push_size _ rfl⟩
  · obtain ⟨its, r, hi, hz⟩ := I4.tuple ht
    refine tail_any (ops := [.ref a, .ref s3.heap.objs.size]) hi.typeIs slot_tuple_getitem.lookup ?_ (by with_unfolding_all rfl)
    refine item_tuple_rev hi isl ?_ (by rw [List.size_toArray, ← r.length]; exact hz)
    refine ⟨.ref _, _, I4.laid (t' := s3.toks) (o := .tup xs.reverse) (fun _ _ z => Heap.get?_push_of_some _ z) (Nat.le_refl _) ?_, rfl, q _ (I4.hok.fresh (Nat.le_refl _))⟩
    exact ⟨by rw [List.length_reverse]; exact hz, _, (by simpa using r.reverse), IsTup.new _ _⟩
section
variable {X : Cx} {g : Gx} {sg : Sig} {call : Call} {W : WX} {a : C} {ea : Expr} {pos p2 q1 q2 : Pos} {kk : Option Str}
theorem s_rv1 {kn : Nat} (k : Ctx X g W) (ha : PE X ea (semP g sg call W a)) : PE X (.Subscript ea (.Slice none none (some (.UnaryOp .USub (.Constant (.int 1) kn q1) q2)) p2) pos) (semE g sg call W (.rv1 a)) := by
  have m1 : PO X (some (.UnaryOp .USub (.Constant (.int 1) kn q1) q2)) (tPart (fun _ H Q => Q (.int (-1)) H)) := by
    refine po_some ⟨fun pins s σ H Q I h => ?_⟩
    obtain ⟨i, ei, q⟩ := (⟨-1, rfl, h⟩ : ∃ i, (-1 : Int) = i ∧ _)
    refine (pe_un (X := X) un_neg (pe_int (i := 1))).run pins s σ H _ I ?_
    exact ⟨1, rfl, h⟩
  have o := pe_rev (p2 := p2) (pos := pos) ha m1
  rw [k.K] at o
  refine PE.imp (fun σ H Q hq => ?_) o
  obtain ⟨env, Mu, st, hw⟩ := hq
  simp only [den, ofE, wpR_bind] at hw
  refine semP_of st hw (fun _ _ x => x) fun t1 env1 v1 H1 M1 P1 o1 hw => ?_
  obtain ⟨dx, nx, hw⟩ := look_ok P1.st o1.ok hw
  cases dx with
  | list xs =>
    obtain ⟨p, us, rfl, hp, r⟩ := nx.list
    have hw : Ans g env σ H Mu env1 (.own (.list xs.reverse)) Q := hw
    exact ⟨p, us, rfl, .inl ⟨hp.l, fun q nq => hw.list st P1 r.rev q nq⟩⟩
  | tuple xs =>
    obtain ⟨p, us, rfl, hp, hp2, r⟩ := nx.tuple
    have hw : Ans g env σ H Mu env1 (.imm (.tuple xs.reverse)) Q := hw
    exact ⟨p, us, rfl, .inr ⟨hp, fun q nq => hw.tup st P1 r.rev q nq⟩⟩
  | _ => exact hw.elim
end
end Ev
end
section
namespace Ev
open PySem PySem.Spec PyProof.Rows L2

theorem mkN_oex {CT : CXT} {X : Cx} {x : Str} {e1 : Expr} {er : List Expr} {ta : TA} {q1 qp : Pos} {Cc fI : Addr} {lev : Nat} {fd : FuncData} {prs : List Str} {sp : Sp} (T : OexC X.K Cc) (iC : PySem.W.findIn X.K (.ref Cc) "__init__" = some (some (.ref fI)))
    (tI : PySem.W.typeIn X.K (.ref fI) = some (.type "function")) (F1 : FnOk X.prog X.w X.K X.mg X.base CT lev fI fd prs sp) (rm : Room (lev + 1) X.A) (bd : Binds X.K fd prs []) (no : Passes CT X (fun _ _ _ => False)) (gx : Gl X x) (mx : X.mg x = some (.ref Cc))
    (pa : PA X (e1 :: er) ta) (nb : (x == ("__debug__" : Str)) = false) (st1 : starEach (e1 :: er) X.env = (false, eval e1 X.env) :: starEach er X.env) (st2 : (backTo qp (starEach er X.env)).any (·.1) = false) :
    L2N.PMk X (.Call (.Name x q1) (e1 :: er) [] qp) (tMkO Cc sp [] ta) := by
  intro pn0 st0 σ0 H0 Q0 I0 h0
  obtain ⟨nm, qn, N, bs, bm, sn, sub, ab, col, dd, k0, k1, k2, k3, k5, hC, hbm⟩ := T.cls
  refine wpAny_Call_Name_kw (ld_glob I0 gx mx ?_ nb)
  refine PySem.W.callWith_K (h₀ := X.base) I0.ok.mod.kin T.kC (thn (pa.run qp pn0 st0 σ0 H0 _ I0 h0) fun as1 st4 ⟨vs, H1, I1, r1, hz, q1⟩ => ⟨I1.kIn, ?_⟩) st1 st2
  show wpAny _ _ (call (.ref Cc) as1) _ _ _
  obtain ⟨hp4, g4, d4, t4, o4⟩ := st4
  obtain ⟨z, hzd⟩ : ∃ z, z = hp4.objs.size + 1 := ⟨_, rfl⟩
  have le0 : hp4.objs.size ≤ z := by omega
  have fresh := I1.hok.fresh le0
  have hq := q1 z fresh
  obtain ⟨hpN, hpNd⟩ : ∃ h, h = (hp4.push (PySem.W.kdv_tup as1)).push (PySem.HandSPX.excO Cc hp4.objs.size) := ⟨_, rfl⟩
  have kk : ∀ b o, hp4.get? b = some o → hpN.get? b = some o := fun b o y => by rw [hpNd]; exact Heap.get?_push_of_some _ (Heap.get?_push_of_some _ y)
  have at_z : hpN.get? z = some (PySem.HandSPX.excO Cc hp4.objs.size) := by rw [hpNd, hzd]; heap_get
  have I2 : Inv X pn0 σ0 (upd H1 z (exo z Cc none)) ⟨hpN, g4, d4, t4, o4⟩ := I1.laid (t' := t4) (a := z) (o := exo z Cc none) (h' := hpN) kk le0 (exo_ok at_z)
  have r2 : Vals (V.ref z :: (vs ++ [])) (Value.ref z :: (as1 ++ [])) := .cons rfl (r1.append .nil)
  have lens : (Value.ref z :: as1 ++ []).length = prs.length := (r2.length.symm.trans (F1.len _ _ _ _ hq) : _)
  have small : as1.length ≤ sizeLine := by rw [← Paired.length r1, sizeLine_eq]; omega
  have bnd := bd _ (Value.ref z :: as1) I2.kIn lens
  rw [List.cons_append] at bnd
  subst hzd hpNd
  refine wpAny_call (PySem.HandSPX.call_own F.excBase_ValueError (fun Y => PySem.HandSPX.refsVE_contains Y bm hbm) (I1.kIn _ _ hC) (PySem.W.looks_findIn I1.kIn iC) (fun self => PySem.W.bind_fn I1.kIn self tI) small
    (codeAny_mono (F1.run _ X.stack _ _ ⟨Value.ref (hp4.objs.size + 1) :: as1, []⟩ (Value.ref (hp4.objs.size + 1) :: (as1 ++ [])) _ _ (fun _ _ _ => False) (rm.make Cc as1 []) (I2.env0.make Cc as1 []) bnd r2 hq) fun rs st5 hr => ?_))
  cases rs with
  | error ee => exact no pn0 σ0 _ _ ee st5 I2 hr
  | ok fl =>
    cases fl with
    | next => exact hr.elim
    | brk => exact hr.elim
    | cont => exact hr.elim
    | ret uu =>
      obtain ⟨vv, H2, os2, bare2, un2, hok2, rv, ev, dx, fs, ea, ed, hd1, q2⟩ := hr
      subst ev
      obtain ⟨h5, g5, d5, t5, o5⟩ := st5
      obtain ⟨t0, G, J, kG, ge, hoe, na⟩ := mk_end0 (d2 := d5) (t2 := t5) I1 le0 kk un2 hok2 os2 bare2 ea ed hd1
      exact ⟨rv, _, _, _, ⟨G, g5, d5, t5, o5⟩, _, .ref Cc, some dx, rfl, J, kG, ge, hoe, ⟨rfl, rfl, fun w hw => by cases hw; rfl⟩, rfl, rfl, na, rfl, bare2, raises_own T.exC T.tyC, q2⟩
theorem meth_form {env : PySem.Env} {b : Str} {args : List Expr} {p1 p2 pos : Pos} (few : ((backTo pos (starEach args env)).all (fun x => !x.1) && (backToKw pos (keywordEach [] env)).all (fun x => x.1.isSome) && decide (args.length + ([] : List Keyword).length + (if ([] : List Keyword).isEmpty then 0 else 1) < 30)) = true)
    (line : (p2.endLine == pos.line) = true) : eval (.Call (.Attribute (.Name b p1) "__init__" p2) args [] pos) env = (do
      let ov ← eval (.Name b p1) env
      standAt p2.atName
      let (f, first) ← holding [ov] (getMethod ov "__init__" (do return (← importBound (.Name b p1) env).getD true))
      callWith pos f first (backTo pos (starEach args env)) (backToKw pos (keywordEach [] env))) := by
  have form : methodCallForm (args.length + ([] : List Keyword).length) (backTo pos (starEach args env)) (backToKw pos (keywordEach [] env)) = true := few
  have place : methodCallPos true (.Name b p1) env p2 pos = pure pos := by unfold methodCallPos; simp [line]
  have base : attributeBase (.Name b p1) "__init__" env (eval (.Name b p1) env) = eval (.Name b p1) env := rfl
  rw [arm_eval_Call, base]
  unfold methodCall
  rw [form]
  unfold calleeOf
  simp only [if_true, place, pure_bind]
theorem pe_baseinit {X : Cx} {R : Addr} {b : Str} {e : Expr} {es : List Expr} {ta : TA} {p1 p2 pos : Pos} {pl : Sem Bool} (gb : Gl X b) (nb : (b == ("__debug__" : Str)) = false) (mb : X.mg b = some (.ref R)) (sg : PySem.W.specialIn X.K (.ref R) "__getattribute__" = some (some (.builtin "type.__getattribute__")))
    (ty : PySem.W.typeIn X.K (.ref R) = some (.type "type")) (rd : PySem.W.readsIn X.K R (.type "type") = true) (fd : PySem.W.findCls X.K (.ref R) (.type "type") "__init__" = some (.val (.builtin "ValueError.__init__"))) (ha : PA X (e :: es) ta)
    (hc : eval (.Call (.Attribute (.Name b p1) "__init__" p2) (e :: es) [] pos) X.env = (do
      let ov ← eval (.Name b p1) X.env
      standAt p2.atName
      let (f, first) ← holding [ov] (getMethod ov "__init__" pl)
      callWith pos f first (backTo pos (starEach (e :: es) X.env)) (backToKw pos (keywordEach [] X.env))))
    (st1 : starEach (e :: es) X.env = (false, eval e X.env) :: starEach es X.env := by rfl) (st2 : (backTo pos (starEach es X.env)).any (·.1) = false := by rfl) :
    PE X (.Call (.Attribute (.Name b p1) "__init__" p2) (e :: es) [] pos) (tVeI X.K ta) := by
  refine ⟨fun pn0 s0 σ0 H0 Q0 I0 h0 => ?_⟩
  refine PySem.W.methodCall_KW (ld_glob I0 gb mb ?_ nb) hc
  obtain ⟨m0, fr0⟩ := I0.fr
  refine PySem.W.method_of_cls fr0 I0.ok.mod.kin sg (PySem.W.cls_val fr0 I0.ok.mod.kin ty rd fd (by decide +kernel) ?_)
  show wpAny _ _ (callWith pos (Value.builtin "ValueError.__init__") [] (backTo pos (starEach (e :: es) X.env)) []) _ _ _
  refine PyProof.Rows.callWith_method1 (thn (ha.run pos pn0 _ σ0 H0 _ (I0.tok _) h0) fun as1 s1 ⟨vs, H1, I1, r1, a, Cc, ws, ev, hl, T, ea, q⟩ => ?_) st1 st2
  subst ev
  cases r1 with
  | @cons _ u0 _ ur ra rw' =>
    obtain rfl : u0 = Value.ref a := ra
    exact oinit_ok T I1 ea (by rw [← Paired.length rw', sizeLine_eq]; omega) fun s' J => ⟨.non, H1, J, rfl, q⟩
def spI (Cc : Addr) (fs : List Str) : Sp := fun vs H Q _ => ∃ a xs, vs = .ref a :: xs ∧ xs.length = fs.length ∧ H a = some (exo a Cc none) ∧
  ∀ dx H', H dx = none → dx ≠ a → H' a = some (exo a Cc (some dx)) → H' dx = some (exd dx (fs.zip xs).reverse) → (∀ b, b ≠ a → b ≠ dx → H' b = H b) → Q .non H'
end Ev
end
section
namespace Ev
open PySem PySem.Spec PyProof.Rows L2
theorem vis_ok {sc : Scope} {x : Str} (h : vis sc x = true) : Vis sc x := by
  unfold vis at h
  split at h
  · exact .inl (by assumption)
  · exact .inr (.inl (by assumption))
  · exact .inr (.inr (by assumption))
  · cases h
theorem gl_ok {X : Cx} {cx : Cxt} {x : Str} (e : X.env.scope = cx.sc) (h : isGl cx.sc x = true) : Gl X x ∧ (x == ("__debug__" : Str)) = false := by
  unfold isGl at h
  split at h
  · rename_i hl
    refine ⟨?_, by simpa using h⟩
    show X.env.scope.names.lookup x = _
    rw [e]
    exact hl
  · cases h
theorem isLocal_ok {sc : Scope} {x : Str} (h : isLocal sc x = true) : sc.names.lookup x = some .local := by
  unfold isLocal at h
  split at h
  · assumption
  · cases h
end Ev
end
section
namespace Ev
open PySem PySem.Spec PyProof.Rows L2
section
variable {g : Gx} {env env1 env2 : Env} {σ σ1 σ2 : L2.St} {H H1 H2 : Hp} {Mu M1 M2 : Addr → Prop} {v w : V}
theorem FsOk.app {K : PySem.W.Frag} {G : Hp} : ∀ {fs fs' : List (Str × V)} {gs gs' : List (Str × D)}, FsOk K G fs gs → FsOk K G fs' gs' → FsOk K G (fs ++ fs') (gs ++ gs')
  | _, _, _, _, .nil, h => h
  | _, _, _, _, .cons r t, h => .cons r (FsOk.app t h)
theorem FsOk.rev {K : PySem.W.Frag} {G : Hp} : ∀ {fs : List (Str × V)} {gs : List (Str × D)}, FsOk K G fs gs → FsOk K G fs.reverse gs.reverse
  | _, _, .nil => .nil
  | _, _, .cons r t => by
    rw [List.reverse_cons, List.reverse_cons]
    exact (FsOk.rev t).app (.cons r .nil)
theorem FsOk.zip {K : PySem.W.Frag} {G : Hp} : ∀ {fs : List Str} {vs : List V} {ds : List D}, RpAll K G vs ds → FsOk K G (fs.zip vs) (fs.zip ds)
  | [], _, _, _ => .nil
  | f :: fs, _, [], h => by cases h; exact .nil
  | f :: fs, _, d :: ds, h => by
    cases h with
    | cons r t => exact .cons r (FsOk.zip t)
theorem FsOk.look {K : PySem.W.Frag} {G : Hp} {f : Str} {d : D} : ∀ {fs : List (Str × V)} {gs : List (Str × D)}, FsOk K G fs gs → gs.lookup f = some d → ∃ v, fs.lookup f = some v ∧ Rp K G v d
  | _, _, .nil, e => by cases e
  | _, _, .cons (x := x) (v := u) r t, e => by
    rw [List.lookup_cons] at e
    rw [List.lookup_cons]
    cases q : (f == x) with
    | true =>
      rw [q] at e
      cases e
      exact ⟨u, rfl, r⟩
    | false =>
      rw [q] at e
      exact FsOk.look t e
/-- how an own class is raised -/
structure Raiser (X : Cx) (x : Str) (fs : List Str) : Prop where
  ex : ∃ (Cc fI : Addr) (fd : FuncData) (prs : List Str), X.mg x = some (.ref Cc) ∧ OexC X.K Cc ∧ PySem.W.findIn X.K (.ref Cc) "__init__" = some (some (.ref fI)) ∧ PySem.W.typeIn X.K (.ref fI) = some (.type "function") ∧
    FnOk X.prog X.w X.K X.mg X.base CX0 1 fI fd prs (spI Cc fs) ∧ Binds X.K fd prs [] ∧ fs.length ≤ 900
/-- what is known of an own class -/
structure Caught (X : Cx) (sg : Sig) (x : Str) (fs : List Str) : Prop where
  ex : ∃ Cc, X.mg x = some (.ref Cc) ∧ XfC X.K Cc ∧ (∀ f ∈ fs, PySem.W.findIn X.K (.ref Cc) f = some none) ∧
    (∀ c b, exIs sg x c = some b → ∃ Cd, X.mg c = some (.ref Cd) ∧ PySem.W.exmOne X.K (.ref Cc) (.ref Cd) = some b)
end
section
variable {X : Cx} {g : Gx} {sg : Sig} {call : Call} {W : WX} {as body : C} {ea : Expr} {es : List Expr} {p p2 pos : Pos}
theorem s_rse {x : Str} {fs : List Str} (k : Ctx X g W) (rm : Room 2 X.A) (r : Raiser X x fs) (hx : sg.excs.lookup x = some fs) (hg : Gl X x) (hdb : (x == ("__debug__" : Str)) = false) (hs : (ea :: es).all noStar = true) (ha : PA X (ea :: es) (semA g sg call W as)) :
    PS X (.Raise (some (.Call (.Name x p) (ea :: es) [] p2)) none pos) (semS g sg call W (.rse x as)) := by
  rw [List.all_cons, Bool.and_eq_true] at hs
  obtain ⟨Cc, fI, fd, prs, mx, T, iC, tI, F1, bd, small⟩ := r.ex
  refine PS.imp (fun D σ H hq => ?_) (L2N.ps_raise k.calm k.tk (mkN_oex T iC tI F1 rm bd pass0 hg mx ha hdb (star1 hs.1 es X.env) (stars hs.2)))
  obtain ⟨env, Mu, st, hw⟩ := hq
  simp only [den, wpR_bind] at hw
  refine semA_of st hw (fun _ _ x => x) fun ts env1 vs H1 M1 P1 o1 hw => ?_
  obtain ⟨ds, env2, M2, hw, P2, rr⟩ := shareDs_ok o1 P1.st hw
  have P := P1.trans st P2
  unfold raiseM at hw
  simp only [hx] at hw
  split at hw
  · rename_i hl
    have hw : ExP g W env σ H Mu ⟨x, (fs.zip ds).reverse⟩ env2 := hw
    have lv := rr.length
    refine ⟨by omega, fun a na => ?_⟩
    refine ⟨a, vs ++ [], rfl, by rw [List.append_nil]; omega, upd_same, fun dx H' n1 ne e1 e2 e3 => ⟨rfl, dx, _, e1, e2, ?_, ?_⟩⟩
    · rwa [upd_ne ne] at n1
    · rw [List.append_nil]
      have hd : H1 dx = none := by rwa [upd_ne ne] at n1
      have eH : upd (del H' a) dx (.xd (fs.zip vs).reverse) = upd H1 dx (.xd (fs.zip vs).reverse) := by
        funext b
        by_cases hb : b = dx
        · rw [hb, upd_same, upd_same]
        · rw [upd_ne hb, upd_ne hb]
          by_cases ha : b = a
          · rw [ha, del_same, na]
          · rw [del_ne ha, e3 b ha hb, upd_ne ha]
      rw [eH]
      have PN := P.newI (o := .xd (fs.zip vs).reverse) st hd
      have nm : ¬ M2 dx := fun z => P.st.mh dx z hd
      refine hw (.ref Cc) (some dx) σ _ M2 ⟨Cc, dx, (fs.zip vs).reverse, rfl, ?_, rfl, hid_some.mpr ⟨nm, upd_same⟩, (FsOk.zip (rr.up ?_)).rev⟩ PN
      · rw [← k.mg]; exact mx
      · exact (Fr.newI (O := fun _ => False) (o := .xd (fs.zip vs).reverse) P.st.mh hd).grows
  · exact hw.elim
def vLit : D → Option V
  | .int i => some (.int i)
  | .bool b => some (.bl b)
  | .none => some .non
  | .str s => some (.str s)
  | _ => none
theorem vLit_rp {K : PySem.W.Frag} {G : Hp} {d : D} {v : V} (h : vLit d = some v) : Rp K G v d := by
  cases d <;> cases h
  · exact .non
  · exact .bl _
  · exact .int _
  · exact .str _
/-- one of a suite's values -/
def tHE (K : PySem.W.Frag) (a : Addr) (cls : Value) (d : Option Addr) (j : Option Nat) : HE → TE
  | .con dd => fun _ H Q => ∃ v, vLit dd = some v ∧ Q v H
  | .fld f => fun σ H Q => ∃ C i, j = some i ∧ cls = .ref C ∧ XfC K C ∧ PySem.W.findIn K (.ref C) f = some none ∧ tXf a cls d C f (tVar i) σ H Q
def tHEs (K : PySem.W.Frag) (a : Addr) (cls : Value) (d : Option Addr) (j : Option Nat) : List HE → TA
  | [] => tNil
  | h :: hs => tCons (tHE K a cls d j h) (tHEs K a cls d j hs)
def fsV (fs : List (Str × V)) : List Str → Option (List V)
  | [] => some []
  | f :: r => match fs.lookup f, fsV fs r with
    | some v, some vs => some (v :: vs)
    | _, _ => none
/-- what f tells of a caught one -/
def tRef (g : Gx) (sg : Sig) (a : Addr) (cls : Value) (d : Option Addr) (r : Rf) (te : TE) : TE := fun σ H Q => te σ H fun x H1 => x = .ref a ∧ ∃ (C dx : Addr) (fs : List (Str × V)) (y : Str), cls = .ref C ∧ d = some dx ∧ H1 dx = some (.xd fs) ∧ g.mg y = some (.ref C) ∧ (sg.excs.lookup y).isSome = true ∧
  (y = r.cls → ∃ vs, fsV fs r.fs = some vs ∧ ∀ T cs p, H1 T = none → upd H1 T (.tup cs) p = none → Q (.ref p) (upd (upd H1 T (.tup cs)) p (.tup vs))) ∧ (y ≠ r.cls → ∀ T cs, H1 T = none → Q (.str r.oth) (upd H1 T (.tup cs)))
/-- a heap with some tuples more -/
inductive NewT (H : Hp) : Hp → Prop
  | nil : NewT H H
  | tup {H0 : Hp} {p : Addr} {vs : List V} (h : NewT H H0) (n : H0 p = none) : NewT H (upd H0 p (.tup vs))
theorem NewT.mh {H HA : Hp} {M : Addr → Prop} (h : NewT H HA) (m : ∀ p, M p → H p ≠ none) : ∀ p, M p → HA p ≠ none := by
  induction h with
  | nil => exact m
  | @tup H0 p vs h n ih =>
    intro q hq
    by_cases e : q = p
    · rw [e, upd_same]
      exact fun z => nomatch z
    · rw [upd_ne e]
      exact ih q hq
theorem Post.newT {g : Gx} {env env1 : Env} {σ σ1 : L2.St} {H H1 HA : Hp} {Mu M1 : Addr → Prop} (st : Sta g env σ H Mu) (P : Post g env σ H Mu env1 σ1 H1 M1) (h : NewT H1 HA) : Post g env σ H Mu env1 σ1 HA M1 := by
  induction h with
  | nil => exact P
  | tup h n ih => exact ih.newI st n
structure RefOk (X : Cx) (g : Gx) (sg : Sig) (f : Str) (r : Rf) : Prop where
  pe : ∀ {a : Addr} {oe : Obj} {cls : Value} {d : Option Addr} {pn : List (Addr × Obj)} {e : Expr} {te : TE} {p q : Pos}, L2N.Zn cls d oe → (∃ vs, oe.data = .fields vs) → noStar e = true → PE (X.suite a ((a, oe) :: pn)) e te → PE (X.suite a ((a, oe) :: pn)) (.Call (.Name f p) [e] [] q) (tRef g sg a cls d r te)
def tHV (g : Gx) (sg : Sig) (K : PySem.W.Frag) (a : Addr) (cls : Value) (d : Option Addr) (j : Option Nat) : HV → TE
  | .one h => tHE K a cls d j h
  | .tup hs => tTup (tHEs K a cls d j hs)
  | .ref f => fun σ H Q => ∃ r i, j = some i ∧ sg.refs.lookup f = some r ∧ tRef g sg a cls d r (tVar i) σ H Q
theorem pe_he {X : Cx} {N : List Str} {cx : Cxt} {nm : Option Str} {a : Addr} {oe : Obj} {cls : Value} {d : Option Addr} {pn : List (Addr × Obj)} {j : Option Nat} {h : HE} {e : Expr} (eN : X.N = N) (es : X.env.scope = cx.sc) (hz : L2N.Zn cls d oe) (hf : ∃ vs, oe.data = .fields vs) (hj : jOk N cx j nm = true) (hb : heB cx nm h e = true) :
    PE (X.suite a ((a, oe) :: pn)) e (tHE X.K a cls d j h) := by
  unfold heB at hb
  split at hb
  · cases of_decide_eq_true hb
    refine PE.imp (fun σ H Q hq => ?_) pe_int
    obtain ⟨v, e, q⟩ := hq
    cases e
    exact q
  · cases of_decide_eq_true hb
    refine PE.imp (fun σ H Q hq => ?_) pe_bl
    obtain ⟨v, e, q⟩ := hq
    cases e
    exact q
  · refine PE.imp (fun σ H Q hq => ?_) pe_non
    obtain ⟨v, e, q⟩ := hq
    cases e
    exact q
  · cases of_decide_eq_true hb
    refine PE.imp (fun σ H Q hq => ?_) pe_str
    obtain ⟨v, e, q⟩ := hq
    cases e
    exact q
  · rename_i f y py g pg
    simp only [Bool.and_eq_true, decide_eq_true_eq] at hb
    obtain ⟨rfl, rfl⟩ := hb
    cases j with
    | none => exact Bool.noConfusion (show false = true from hj)
    | some i =>
      simp only [jOk, Bool.and_eq_true, decide_eq_true_eq, Bool.not_eq_true'] at hj
      obtain ⟨⟨⟨h1, h2⟩, h3⟩, h4⟩ := hj
      refine ⟨fun pins s σ H Q I hq => ?_⟩
      obtain ⟨C, i', ei, ec, T, no, q⟩ := hq
      cases ei
      have pv' : PE (X.suite a ((a, oe) :: pn)) (.Name y py) (tVar i) := pe_var (by rw [← eN] at h1; exact h1) (by show Vis X.env.scope y; rw [es]; exact .inl (isLocal_ok h2)) h3 h4
      exact (pe_xf T no hz.zc hf pv').run pins s σ H Q I q
  · cases hb
theorem pa_hes {X : Cx} {N : List Str} {cx : Cxt} {nm : Option Str} {a : Addr} {oe : Obj} {cls : Value} {d : Option Addr} {pn : List (Addr × Obj)} {j : Option Nat} (eN : X.N = N) (esc : X.env.scope = cx.sc) (hz : L2N.Zn cls d oe) (hf : ∃ vs, oe.data = .fields vs) (hj : jOk N cx j nm = true) :
    ∀ {hs : List HE} {es : List Expr}, hesB cx nm hs es = true → PA (X.suite a ((a, oe) :: pn)) es (tHEs X.K a cls d j hs)
  | [], [], _ => pa_nil
  | [], _ :: _, h => Bool.noConfusion (show false = true from h)
  | _ :: _, [], h => Bool.noConfusion (show false = true from h)
  | h :: hs, e :: es, hb => by
    simp only [hesB, Bool.and_eq_true] at hb
    obtain ⟨⟨h1, h2⟩, h3⟩ := hb
    exact pa_cons (pe_he eN esc hz hf hj h2) (pa_hes eN esc hz hf hj h3) (star1 h1 es _)
theorem pe_hv {X : Cx} {g : Gx} {sg : Sig} {N : List Str} {cx : Cxt} {nm : Option Str} {a : Addr} {oe : Obj} {cls : Value} {d : Option Addr} {pn : List (Addr × Obj)} {j : Option Nat} {hv : HV} {e : Expr} (eN : X.N = N) (esc : X.env.scope = cx.sc) (rf : ∀ f r, sg.refs.lookup f = some r → Gl X f → RefOk X g sg f r)
    (hz : L2N.Zn cls d oe) (hf : ∃ vs, oe.data = .fields vs) (hj : jOk N cx j nm = true) (hb : hvB sg cx nm hv e = true) : PE (X.suite a ((a, oe) :: pn)) e (tHV g sg X.K a cls d j hv) := by
  unfold hvB at hb
  split at hb
  · exact pe_he eN esc hz hf hj hb
  · exact pe_tup (pa_hes eN esc hz hf hj hb)
  · rename_i f g2 pg y py pos
    simp only [Bool.and_eq_true, decide_eq_true_eq] at hb
    obtain ⟨⟨⟨rfl, rfl⟩, hg⟩, hr⟩ := hb
    cases j with
    | none => exact Bool.noConfusion (show false = true from hj)
    | some i =>
      simp only [jOk, Bool.and_eq_true, decide_eq_true_eq, Bool.not_eq_true'] at hj
      obtain ⟨⟨⟨h1, h2⟩, h3⟩, h4⟩ := hj
      refine ⟨fun pins s σ H Q I hq => ?_⟩
      obtain ⟨r, i', ei, er, q⟩ := hq
      cases ei
      have pv' : PE (X.suite a ((a, oe) :: pn)) (.Name y py) (tVar i) := pe_var (by rw [← eN] at h1; exact h1) (by show Vis X.env.scope y; rw [esc]; exact .inl (isLocal_ok h2)) h3 h4
      exact ((rf g2 r er (gl_ok esc hg).1).pe hz hf rfl pv').run pins s σ H Q I q
  · cases hb
theorem Post.endOther {vs : List Nat} {g : Gx} {env env1 : Env} {σ σ1 σ1' : L2.St} {H H1 : Hp} {Mu M1 : Addr → Prop} (P : Post g env σ H Mu env1 σ1 H1 M1) (n1 : NoSl vs env1) (np : ∀ i ∈ vs, i ∉ g.pins) (h1 : Else vs σ1 σ1') : Post g env σ H Mu env1 σ1' H1 M1 where
  st := P.st.other n1 np h1
  fr := P.fr
  sub := fun p o => P.sub p (own_other n1 h1.symm.2 o)
end
section
variable {X : Cx} {g : Gx} {sg : Sig} {x : Exn} {fs : List Str} {cls : Value} {d : Option Addr} {σ : L2.St} {H : Hp} {M : Addr → Prop} {a : Addr} {j : Option Nat}
theorem he_reads {h : HE} {dd : D} {Q : VK} (eK : X.K = g.K) (eM : X.mg = g.mg) (ca : Caught X sg x.cls fs) (hx : sg.excs.lookup x.cls = some fs) (xo : XOk g cls d x (hid H M)) (hd : heD sg j.isSome x h = some dd) (hj : ∀ i, j = some i → σ[i]? = some (some (.ref a))) (q : ∀ v, Rp g.K (hid H M) v dd → Q v H) : tHE X.K a cls d j h σ H Q := by
  cases h with
  | con c =>
    cases c <;> first | (cases hd; exact ⟨_, rfl, q _ (vLit_rp rfl)⟩) | cases hd
  | fld f =>
    simp only [heD] at hd
    split at hd
    · rename_i c
      obtain ⟨i, rfl⟩ := Option.isSome_iff_exists.mp c.1
      have hf : f ∈ fs := by
        have := c.2
        rw [hx] at this
        exact List.contains_iff_mem.mp this
      obtain ⟨C, dx, ffs, rfl, e1, rfl, e2, e3⟩ := xo
      obtain ⟨Cc, m1, T, no, _⟩ := ca.ex
      rw [eM, e1] at m1
      cases m1
      obtain ⟨v, l1, r⟩ := e3.look hd
      exact ⟨C, i, rfl, rfl, T, no f hf, .ref a, hj i rfl, rfl, rfl, dx, ffs, v, rfl, (hid_le _ _) _ _ e2, l1, q v r⟩
    · cases hd
theorem hes_reads (eK : X.K = g.K) (eM : X.mg = g.mg) (ca : Caught X sg x.cls fs) (hx : sg.excs.lookup x.cls = some fs) (xo : XOk g cls d x (hid H M)) (hj : ∀ i, j = some i → σ[i]? = some (some (.ref a))) :
    ∀ {hs : List HE} {ds : List D} {Q : List V → Hp → Prop}, hesD sg j.isSome x hs = some ds → (∀ vs, RpAll g.K (hid H M) vs ds → Q vs H) → tHEs X.K a cls d j hs σ H Q
  | [], ds, Q, hd, q => by
    cases hd
    exact q [] .nil
  | h :: hs, ds, Q, hd, q => by
    simp only [hesD] at hd
    split at hd
    · rename_i d1 ds1 e1 e2
      cases hd
      refine he_reads eK eM ca hx xo e1 hj fun v r => ?_
      exact hes_reads eK eM ca hx xo hj e2 fun vs rs => q (v :: vs) (.cons r rs)
    · cases hd
theorem fs_look {K : PySem.W.Frag} {G : Hp} {ffs : List (Str × V)} (h : FsOk K G ffs x.fs) : ∀ {l : List Str} {ds : List D}, fsD x l = some ds → ∃ vs, fsV ffs l = some vs ∧ RpAll K G vs ds
  | [], ds, e => by
    cases e
    exact ⟨[], rfl, .nil⟩
  | f :: l, ds, e => by
    simp only [fsD] at e
    split at e
    · rename_i d1 ds1 e1 e2
      cases e
      obtain ⟨v, l1, r⟩ := h.look e1
      obtain ⟨vs, l2, rs⟩ := fs_look h e2
      exact ⟨v :: vs, by simp only [fsV, l1, l2], .cons r rs⟩
    · cases e
/-- the value, in a heap that may have grown -/
theorem hv_reads {hv : HV} {dd : D} {Q : VK} (eK : X.K = g.K) (eM : X.mg = g.mg) (ca : Caught X sg x.cls fs) (hx : sg.excs.lookup x.cls = some fs) (mh : ∀ p, M p → H p ≠ none) (xo : XOk g cls d x (hid H M)) (hd : hvD sg j.isSome x hv = some dd) (hj : ∀ i, j = some i → σ[i]? = some (some (.ref a)))
    (q : ∀ v HA, NewT H HA → Rp g.K (hid HA M) v dd → Q v HA) : tHV g sg X.K a cls d j hv σ H Q := by
  cases hv with
  | one h => exact he_reads eK eM ca hx xo hd hj fun v r => q v H .nil r
  | tup hs =>
    simp only [hvD] at hd
    split at hd
    · rename_i ds e
      split at hd
      · rename_i c
        cases hd
        refine hes_reads eK eM ca hx xo hj e fun vs rs => ⟨by rw [rs.length]; exact Nat.le_trans c (by rw [sizeLine_eq]; decide), fun p np => q _ _ (.tup .nil np) ?_⟩
        have nm : ¬ M p := fun z => mh p z np
        exact .tup (.inl (.inl (hid_some.mpr ⟨nm, upd_same⟩))) (rs.up (Fr.newI (O := fun _ => False) mh np).grows)
      · cases hd
    · cases hd
  | ref f =>
    simp only [hvD] at hd
    split at hd
    · rename_i r er
      split at hd
      · rename_i c
        obtain ⟨i, rfl⟩ := Option.isSome_iff_exists.mp c
        obtain ⟨C, dx, ffs, rfl, e1, rfl, e2, e3⟩ := xo
        refine ⟨r, i, rfl, er, .ref a, hj i rfl, rfl, C, dx, ffs, x.cls, rfl, rfl, (hid_le _ _) _ _ e2, e1, by rw [hx]; rfl, fun ey => ?_, fun ny => ?_⟩
        · rw [if_pos ey] at hd
          obtain ⟨ds, e4, e5⟩ := Option.map_eq_some_iff.mp hd
          cases e5
          obtain ⟨vs, l, rs⟩ := fs_look e3 e4
          refine ⟨vs, l, fun T cs p nT np => q _ _ (.tup (.tup .nil nT) np) ?_⟩
          have mh2 := NewT.mh (.tup (vs := cs) .nil nT) mh
          have nm : ¬ M p := fun z => mh2 p z np
          exact .tup (.inl (.inl (hid_some.mpr ⟨nm, upd_same⟩))) ((rs.up (Fr.newI (O := fun _ => False) mh nT).grows).up (Fr.newI (O := fun _ => False) mh2 np).grows)
        · rw [if_neg ny] at hd
          cases hd
          exact fun T cs nT => q _ _ (.tup .nil nT) (.str _)
      · cases hd
    · cases hd
end
section
variable {X : Cx} {g : Gx} {sg : Sig} {call : Call} {W : WX} {body : C}
/-- the suite of a clause -/
def tSu (g : Gx) (sg : Sig) (K : PySem.W.Frag) (j : Option Nat) (su : Hs) (a : Addr) (cls : Value) (d : Option Addr) : TS := match su.tgt with
  | some i => tAsg (tHV g sg K a cls d j su.v) (gName i)
  | none => tRet (tHV g sg K a cls d j su.v)
theorem swaps_plainE {e : Expr} (h : isComp e = false) (t : Option Expr) (l : Nat) (env : PySem.Env) : swapsWith e t l env = pure false := by
  cases e <;> first | rfl | cases h
theorem loc_okE {X : Cx} {N : List Str} {cx : Cxt} {i : Nat} {x : Str} (eN : X.N = N) (e : X.env.scope = cx.sc) (ef : ∀ x, cx.fn x = true → X.fn x = true) (h : locOk N cx i x = true) :
    X.N[i]? = some x ∧ Loc X.env.scope x ∧ (X.fn x = true ∨ X.env.scope.names.lookup x = some .local) := by
  unfold locOk at h
  simp only [Bool.and_eq_true, decide_eq_true_eq, Bool.or_eq_true] at h
  refine ⟨by rw [eN]; exact h.1, ?_⟩
  rw [e]
  rcases h.2 with q | q
  · exact ⟨.inl (isLocal_ok q), .inr (isLocal_ok q)⟩
  · refine ⟨.inr ?_, .inl (ef x q.2)⟩
    have q1 := q.1
    unfold isCell at q1
    split at q1
    · assumption
    · cases q1
theorem ps_su {N : List Str} {cx : Cxt} {nm : Option Str} {j : Option Nat} {su : Hs} {s1 : Stmt} {a : Addr} {oe : Obj} {cls : Value} {d : Option Addr} {pn : List (Addr × Obj)} (nd : X.N.Nodup) (eN : X.N = N) (esc : X.env.scope = cx.sc) (efn : ∀ x, cx.fn x = true → X.fn x = true) (rf : ∀ f r, sg.refs.lookup f = some r → Gl X f → RefOk X g sg f r)
    (hz : L2N.Zn cls d oe) (hf : ∃ vs, oe.data = .fields vs) (hj : jOk N cx j nm = true) (hb : suB N sg cx nm su s1 = true) : PS (X.suite a ((a, oe) :: pn)) s1 (tSu g sg X.K j su a cls d) := by
  unfold suB at hb
  split at hb
  · rename_i x px e pos
    split at hb
    · rename_i i ei
      simp only [Bool.and_eq_true, Bool.not_eq_true'] at hb
      obtain ⟨⟨h1, h2⟩, h3⟩ := hb
      obtain ⟨l1, l2, l3⟩ := loc_okE eN esc efn h1
      unfold tSu
      rw [ei]
      exact ps_set nd l1 l2 (pe_hv eN esc rf hz hf hj h3) (swaps_plainE h2 _ _ _) l3
    · cases hb
  · rename_i e pos
    simp only [Bool.and_eq_true, Option.isNone_iff_eq_none] at hb
    unfold tSu
    rw [hb.1]
    exact ps_ret (pe_hv eN esc rf hz hf hj hb.2)
  · cases hb
theorem NoSl.one {env : Env} {j : Nat} : NoSl [j] (env.set j none) := fun i hi s z => by
  obtain rfl : i = j := by simpa using hi
  rcases getset z with ⟨_, _, e⟩ | ⟨n, _⟩
  · cases e
  · exact n rfl
theorem Else.one {σ : L2.St} {j : Nat} {o : Option V} : Else [j] σ (σ.set j o) := ⟨List.length_set .., fun k hk => List.getElem?_set_ne fun z => hk (by rw [z]; exact List.mem_cons_self ..)⟩
theorem killO_use {pins : List Nat} {j : Nat} {env : Env} {R : Unit → Env → Prop} {E : Exn → Env → Prop} (hw : wpR (killO pins (some j) env) R E) : pins.contains j = false ∧ j < env.length ∧ R () (env.set j none) := by
  unfold killO at hw
  cases hc : pins.contains j with
  | true => simp only [hc, if_true] at hw; exact hw.elim
  | false =>
    simp only [hc, Bool.false_eq_true, if_false] at hw
    split at hw
    · rename_i hl
      exact ⟨rfl, hl, hw⟩
    · exact hw.elim
/-- from the evaluator's suite to the clause's reading; σj: the slots as the suite sees them -/
theorem su_reads {env env1 : Env} {σ σ1 : L2.St} {H H1 : Hp} {Mu M1 : Addr → Prop} {x : Exn} {fs : List Str} {cls : Value} {d : Option Addr} {a : Addr} {j : Option Nat} {su : Hs} {Dn : Ends} {E : Exn → Env → Prop} (eK : X.K = g.K) (eM : X.mg = g.mg) (ca : Caught X sg x.cls fs) (hx : sg.excs.lookup x.cls = some fs)
    (st : Sta g env σ H Mu) (P : Post g env σ H Mu env1 σ1 H1 M1) (xo : XOk g cls d x (hid H1 M1)) (hw : wpR (suiteM sg g.pins x j su env1) (FlP g Dn env σ H Mu) E) :
    (∀ i, j = some i → tSu g sg X.K j su a cls d { nx := fun σ' H' => Dn.nx (σ'.set i none) H', rt := Dn.rt, bk := fun σ' H' => Dn.bk (σ'.set i none) H', ct := fun σ' H' => Dn.ct (σ'.set i none) H' } (σ1.set i (some (.ref a))) H1) ∧ (j = none → tSu g sg X.K j su a cls d Dn σ1 H1) := by
  have ends : ∀ {i : Nat} {t : Nat} {v : V}, t ≠ i → ((σ1.set i (some (.ref a))).set t (some v)).set i none = (σ1.set t (some v)).set i none := fun {i t v} h => by
    rw [List.set_comm _ _ (Ne.symm h), List.set_set]
  -- a slot is filled
  have fill : ∀ {envA : Env} {HA : Hp} {MA : Addr → Prop} {t : Nat} {v : V} {dd : D}, Post g env σ H Mu envA σ1 HA MA → t ∉ g.pins → Rp g.K (hid HA MA) v dd → Post g env σ H Mu (envA.set t (some (.imm dd))) (σ1.set t (some v)) HA MA := fun {envA HA MA t v dd} PA np r => PA.trans st (Post.put (s := .imm dd) PA.st np r (fun _ z => nomatch z) fun _ z => nomatch z)
  cases j with
  | some i =>
    refine And.intro ?_ (fun z => nomatch z)
    rintro i' ⟨⟩
    obtain ⟨hp, il0, hw⟩ := killO_use (wpR_bind.mp hw)
    · have np : i ∉ g.pins := pins_of hp
      · have il : i < σ1.length := by rw [← P.st.len]; exact il0
        have hw : wpR ((liftO (hvD sg (some i).isSome x su.v) >>= fun d => match su.tgt with
            | some t => if some i = some t then badM else do
              store g.pins t (.imm d)
              M.pure .nx
            | none => M.pure (.rt (.imm d))) (env1.set i none)) (FlP g Dn env σ H Mu) E := hw
        obtain ⟨dd, e, hw⟩ := wpR_lift.mp (wpR_bind.mp hw)
        have at_i : ∀ k, some i = some k → (σ1.set i (some (.ref a)))[k]? = some (some (.ref a)) := by
          rintro k ⟨⟩
          exact List.getElem?_set_self il
        have Pd := P.trans st (Post.drop P.st i)
        unfold tSu
        cases et : su.tgt with
        | some t =>
          simp only [et] at hw
          split at hw
          · exact hw.elim
          · rename_i nit
            have ti : t ≠ i := fun z => nit (by rw [z])
            obtain ⟨np2, hl2, hw⟩ := store_use (wpR_bind.mp hw)
            have hw : ∀ σ' H' Mu', Post g env σ H Mu ((env1.set i none).set t (some (.imm dd))) σ' H' Mu' → Dn.nx σ' H' := hw
            have go : ∀ {HA : Hp} {v : V}, Post g env σ H Mu (env1.set i none) σ1 HA M1 → Rp g.K (hid HA M1) v dd → Dn.nx (((σ1.set i (some (.ref a))).set t (some v)).set i none) HA := fun {HA v} PA r => by
              rw [ends ti]
              refine hw _ HA M1 (Post.endOther (vs := [i]) (fill PA np2 r) ?_ (fun k hk => ?_) Else.one)
              · rw [List.set_comm _ _ (Ne.symm ti)]
                exact NoSl.one
              · obtain rfl : k = i := by simpa using hk
                exact np
            exact hv_reads eK eM ca hx P.st.mh xo e at_i fun v HA nt r => go (Post.newT st Pd nt) r
        | none =>
          simp only [et] at hw
          have hw : ∀ v σ' H' Mu', Post g env σ H Mu (env1.set i none) σ' H' Mu' → TVOk g (env1.set i none) σ' H' Mu' v (.val (.imm dd)) → Org env σ H v (.val (.imm dd)) → Dn.rt v H' := fun v σ' H' Mu' => hw v σ' H' Mu'
          exact hv_reads eK eM ca hx P.st.mh xo e at_i fun v HA nt r => hw v σ1 HA M1 (Post.newT st Pd nt) r trivial
  | none =>
    refine And.intro (fun _ z => nomatch z) (fun _ => ?_)
    have hw : wpR ((liftO (hvD sg (none : Option Nat).isSome x su.v) >>= fun d => match su.tgt with
        | some t => if none = some t then badM else do
          store g.pins t (.imm d)
          M.pure .nx
        | none => M.pure (.rt (.imm d))) env1) (FlP g Dn env σ H Mu) E := hw
    obtain ⟨dd, e, hw⟩ := wpR_lift.mp (wpR_bind.mp hw)
    unfold tSu
    cases et : su.tgt with
    | some t =>
      simp only [et] at hw
      rw [if_neg (by simp)] at hw
      obtain ⟨np2, hl2, hw⟩ := store_use (wpR_bind.mp hw)
      have hw : ∀ σ' H' Mu', Post g env σ H Mu (env1.set t (some (.imm dd))) σ' H' Mu' → Dn.nx σ' H' := hw
      exact hv_reads eK eM ca hx P.st.mh xo e (fun _ z => nomatch z) fun v HA nt r => hw _ _ M1 (fill (Post.newT st P nt) np2 r)
    | none =>
      simp only [et] at hw
      have hw : ∀ v σ' H' Mu', Post g env σ H Mu env1 σ' H' Mu' → TVOk g env1 σ' H' Mu' v (.val (.imm dd)) → Org env σ H v (.val (.imm dd)) → Dn.rt v H' := fun v σ' H' Mu' => hw v σ' H' Mu'
      exact hv_reads eK eM ca hx P.st.mh xo e (fun _ z => nomatch z) fun v HA nt r => hw v σ1 HA M1 (Post.newT st P nt) r trivial
theorem exIs_some {x c : Str} {b : Bool} (h : exIs sg x c = some b) : ∃ fs, sg.excs.lookup x = some fs := by
  unfold exIs at h
  split at h
  · rename_i q
    exact Option.isSome_iff_exists.mp q
  · cases h
/-- the body's reading, from the try's -/
theorem try_reads {env : Env} {σ : L2.St} {H : Hp} {Mu : Addr → Prop} {c : Str} {j : Option Nat} {su : Hs} {Dn : Ends} {Cd : Addr} {W' : WX} (eK : X.K = g.K) (eM : X.mg = g.mg) (xc : ∀ x fs, sg.excs.lookup x = some fs → Caught X sg x fs) (mc : X.mg c = some (.ref Cd)) (st : Sta g env σ H Mu)
    (hW : ∀ cls d σ1 H1 b, PySem.W.exmOne X.K cls (.ref Cd) = some b → (b = true → ∀ a, (∀ i, j = some i → tSu g sg X.K j su a cls d { nx := fun σ' H' => Dn.nx (σ'.set i none) H', rt := Dn.rt, bk := fun σ' H' => Dn.bk (σ'.set i none) H', ct := fun σ' H' => Dn.ct (σ'.set i none) H' } (σ1.set i (some (.ref a))) H1) ∧ (j = none → tSu g sg X.K j su a cls d Dn σ1 H1)) → (b = false → W cls d σ1 H1) → W' cls d σ1 H1)
    (hw : wpR ((den sg call g.pins (.tryS body c j su)).S env) (FlP g Dn env σ H Mu) (ExP g W env σ H Mu)) : semS g sg call W' body Dn σ H := by
  refine ⟨env, Mu, st, ?_⟩
  have hw : wpR (tryM sg g.pins c j su (den sg call g.pins body).S env) (FlP g Dn env σ H Mu) (ExP g W env σ H Mu) := hw
  unfold tryM at hw
  cases hm : (den sg call g.pins body).S env with
  | ok fl e =>
    rw [hm] at hw
    exact hw
  | bad =>
    rw [hm] at hw
    exact hw.elim
  | ex x e =>
    rw [hm] at hw
    show ExP g W' env σ H Mu x e
    intro cls d σ1 H1 M1 xo P
    cases hx : exIs sg x.cls c with
    | none =>
      simp only [hx] at hw
      exact hw.elim
    | some b =>
      obtain ⟨fs, hfs⟩ := exIs_some hx
      have ca := xc _ _ hfs
      obtain ⟨Cc, m1, T, no, hE⟩ := ca.ex
      obtain ⟨Cd', m2, hb⟩ := hE c b hx
      rw [mc] at m2
      cases m2
      have hc : cls = .ref Cc := by
        obtain ⟨C, dx, ffs, e0, e1, _⟩ := xo
        rw [← eM, m1] at e1
        cases e1
        exact e0
      subst hc
      refine hW _ _ _ _ b hb (fun hbt a => ?_) fun hbf => ?_
      · subst hbt
        simp only [hx] at hw
        exact su_reads eK eM ca hfs st P xo hw
      · subst hbf
        simp only [hx] at hw
        exact (show ExP g W env σ H Mu x e from hw) _ _ _ _ _ xo P
theorem s_try {N : List Str} {cx : Cxt} {nm : Option Str} {j : Option Nat} {su : Hs} {s1 : Stmt} {bd : List Stmt} {c : Str} {np p' pos : Pos} (k : Ctx X g W) (hs : X.stack = X.env :: X.outer) (hf : X.env.frame = some X.env.locals) (eN : X.N = N) (esc : X.env.scope = cx.sc) (efn : ∀ x, cx.fn x = true → X.fn x = true)
    (rf : ∀ f r, sg.refs.lookup f = some r → Gl X f → RefOk X g sg f r) (xc : ∀ x fs, sg.excs.lookup x = some fs → Caught X sg x fs) (hg : Gl X c) (hdb : (c == ("__debug__" : Str)) = false) (mc : ∃ Cd, X.mg c = some (.ref Cd)) (hj : jOk N cx j nm = true) (hb : suB N sg cx nm su s1 = true)
    (hbody : ∀ (W' : WX) (pn : List (Addr × Obj)) (xe : Value → Shared → Prop), L2N.Takes (X.tr pn xe) W' → PassesOwn (model X.prog X.w) X.A X.env xe → PSs (X.tr pn xe) bd (semS g sg call W' body)) : PS X (.Try bd [.ExceptHandler (some (.Name c np)) nm [s1] p'] [] [] pos) (semS g sg call W (.tryS body c j su)) := by
  obtain ⟨Cd, mc⟩ := mc
  have nms : Names X c (.ref Cd) := ⟨hg, hdb, .inl mc⟩
  cases j with
  | some i =>
    cases nm with
    | none => exact Bool.noConfusion (show false = true from hj)
    | some y =>
      have hj' := hj
      simp only [jOk, Bool.and_eq_true, decide_eq_true_eq, Bool.not_eq_true'] at hj'
      obtain ⟨⟨⟨h1, h2⟩, h3⟩, h4⟩ := hj'
      refine PS.imp (fun D σ H hq => ?_) (L2N.ps_try_as hs hf k.nd (i := i) (by rw [eN]; exact h1) (by show X.env.scope.names.lookup y = _; rw [esc]; exact isLocal_ok h2) nms k.tk hbody (fun a oe cls d pn hz hfl => pss_one (ps_su k.nd eN esc efn rf hz hfl hj hb)))
      obtain ⟨env, Mu, st, hw⟩ := hq
      exact try_reads k.K k.mg xc mc st (fun cls d σ1 H1 b hb h5 h6 => ⟨b, hb, fun hbt a na => (h5 hbt a).1 i rfl, h6⟩) hw
  | none =>
    cases nm with
    | some y => exact Bool.noConfusion (show false = true from hj)
    | none =>
      refine PS.imp (fun D σ H hq => ?_) (L2N.ps_try_many hs hf k.tk hbody (.cons nms (fun a oe cls d pn hz hfl => pss_one (ps_su k.nd eN esc efn rf hz hfl hj hb)) .nil))
      obtain ⟨env, Mu, st, hw⟩ := hq
      exact try_reads k.K k.mg xc mc st (fun cls d σ1 H1 b hb h5 h6 => ⟨b, hb, fun hbt a na => (h5 hbt a).2 rfl, h6⟩) hw
end
end Ev
end
section
namespace Ev
open PySem PySem.Spec PyProof.Rows L2
/-- the base class of the own exceptions -/
structure BaseX (K : PySem.W.Frag) (mg : Str → Option Value) (R : Addr) : Prop where
  mb : mg "RestError" = some (.ref R)
  sg : PySem.W.specialIn K (.ref R) "__getattribute__" = some (some (.builtin "type.__getattribute__"))
  ty : PySem.W.typeIn K (.ref R) = some (.type "type")
  rd : PySem.W.readsIn K R (.type "type") = true
  fd : PySem.W.findCls K (.ref R) (.type "type") "__init__" = some (.val (.builtin "ValueError.__init__"))
def initB (ps fs : List Str) (body : List Stmt) : Bool := match ps, fs, body with
  | [s0, a1], [f1], [.Expr (.Call (.Attribute (.Name b _) i p2) [.Name s1 _, .Constant (.str _) _ _] [] p3) _, .Assign [.Attribute (.Name s2 _) g1 _] (.Name b1 _) _] =>
    (p2.endLine == p3.line) && decide (b = "RestError") && decide (i = "__init__") && decide (s1 = s0) && decide (s2 = s0) && decide (g1 = f1) && decide (b1 = a1)
  | [s0, a1, a2], [f1, f2], [.Expr (.Call (.Attribute (.Name b _) i p2) [.Name s1 _, .Constant (.str _) _ _] [] p3) _, .Assign [.Attribute (.Name s2 _) g1 _] (.Name b1 _) _, .Assign [.Attribute (.Name s3 _) g2 _] (.Name b2 _) _] =>
    (p2.endLine == p3.line) && decide (b = "RestError") && decide (i = "__init__") && decide (s1 = s0) && decide (s2 = s0) && decide (g1 = f1) && decide (b1 = a1) && decide (s3 = s0) && decide (g2 = f2) && decide (b2 = a2) && decide (f1 ≠ f2)
  | _, _, _ => false
theorem loc_vis {sc : Scope} {ps : List Str} {x : Str} (h : ps.all (fun x => isLocal sc x && !(x == ("__debug__" : Str)) && !(x == ("__classdict__" : Str))) = true) (hx : x ∈ ps) : Vis sc x ∧ (x == ("__debug__" : Str)) = false ∧ (x == ("__classdict__" : Str)) = false := by
  have := List.all_eq_true.mp h x hx
  simp only [Bool.and_eq_true, Bool.not_eq_true'] at this
  refine ⟨.inl ?_, this.1.2, this.2⟩
  have q := this.1.1
  unfold isLocal at q
  split at q
  · assumption
  · cases q
theorem init_ok {P : Program} {w : World} {K : PySem.W.Frag} {mg : Str → Option Value} {base : Heap} {Cc R fI : Addr} {fd : FuncData} {nm qual : Str} {pa : Arguments} {body : List Stmt} {sc : Scope} {ps fs : List Str} (F : FunD K nm qual pa body sc [] [] fI fd)
    (S : FnScope ps ps sc) (gl : isGl sc "RestError" = true) (loc : ps.all (fun x => isLocal sc x && !(x == ("__debug__" : Str)) && !(x == ("__classdict__" : Str))) = true) (hb : initB ps fs body = true) (T : OexC K Cc) (nof : ∀ f ∈ fs, PySem.W.findIn K (.ref Cc) f = some none) (B : BaseX K mg R) : FnOk P w K mg base CX0 1 fI fd ps (spI Cc fs) := by
  have hl : ps.length = fs.length + 1 := by
    unfold initB at hb
    split at hb
    · rfl
    · rfl
    · cases hb
  have gl' : sc.names.lookup ("RestError" : Str) = some .globalImplicit := by
    unfold isGl at gl
    split at gl
    · assumption
    · cases gl
  refine F.ok S (fun vs H Q E h => ?_) fun cdv A outer s H vs Q E _ h => ?_
  · obtain ⟨a, xs, rfl, l, _⟩ := h
    simp [l, hl]
  obtain ⟨a, xs, rfl, l, ea, hq⟩ := h
  unfold initB at hb
  split at hb
  · rename_i s0 a1 f1 b pb i p2 s1 ps1 tx kx px p3 p4 s2 ps2 g1 pg b1 pb1 p5
    simp only [Bool.and_eq_true, decide_eq_true_eq] at hb
    obtain ⟨⟨⟨⟨⟨⟨ln, rfl⟩, rfl⟩, rfl⟩, rfl⟩, rfl⟩, rfl⟩ := hb
    obtain ⟨v1, v2, v3⟩ := loc_vis loc (List.mem_cons_self ..)
    obtain ⟨w1, w2, w3⟩ := loc_vis (x := b1) loc (by simp)
    obtain ⟨y, rfl⟩ : ∃ y, xs = [y] := List.length_eq_one_iff.mp l
    refine ⟨_, pss_cons (ps_expr (pe_baseinit gl' (by decide) B.mb B.sg B.ty B.rd B.fd (pa_cons (pe_var (i := 0) rfl v1 v2 v3) (pa_cons pe_str pa_nil)) (meth_form (by rfl) ln))) (pss_one (ps_ost (pe_var (i := 0) rfl v1 v2 v3) (pe_var (i := 1) rfl w1 w2 w3))), ?_⟩
    refine ⟨_, rfl, a, Cc, _, rfl, by simp, T, ea, ?_⟩
    refine ⟨_, rfl, _, rfl, a, Cc, rfl, T, nof _ (List.mem_cons_self ..), .inl ⟨ea, fun dx n ne => ?_⟩⟩
    exact hq dx _ n ne upd_same (by rw [upd_ne ne, upd_same]; rfl) fun b h1 h2 => by rw [upd_ne h1, upd_ne h2]
  · rename_i s0 a1 a2 f1 f2 b pb i p2 s1 ps1 tx kx px p3 p4 s2 ps2 g1 pg b1 pb1 p5 s3 ps3 g2 pg2 b2 pb2 p6
    simp only [Bool.and_eq_true, decide_eq_true_eq] at hb
    obtain ⟨⟨⟨⟨⟨⟨⟨⟨⟨⟨ln, rfl⟩, rfl⟩, rfl⟩, rfl⟩, rfl⟩, rfl⟩, rfl⟩, rfl⟩, rfl⟩, nef⟩ := hb
    obtain ⟨v1, v2, v3⟩ := loc_vis loc (List.mem_cons_self ..)
    obtain ⟨w1, w2, w3⟩ := loc_vis (x := b1) loc (by simp)
    obtain ⟨z1, z2, z3⟩ := loc_vis (x := b2) loc (by simp)
    obtain ⟨y, y2, rfl⟩ : ∃ y y2, xs = [y, y2] := by
      match xs, l with
      | [y, y2], _ => exact ⟨y, y2, rfl⟩
    refine ⟨_, pss_cons (ps_expr (pe_baseinit gl' (by decide) B.mb B.sg B.ty B.rd B.fd (pa_cons (pe_var (i := 0) rfl v1 v2 v3) (pa_cons pe_str pa_nil)) (meth_form (by rfl) ln))) (pss_cons (ps_ost (pe_var (i := 0) rfl v1 v2 v3) (pe_var (i := 1) rfl w1 w2 w3)) (pss_one (ps_ost (pe_var (i := 0) rfl v1 v2 v3) (pe_var (i := 2) rfl z1 z2 z3)))), ?_⟩
    refine ⟨_, rfl, a, Cc, _, rfl, by simp, T, ea, ?_⟩
    refine ⟨_, rfl, _, rfl, a, Cc, rfl, T, nof _ (List.mem_cons_self ..), .inl ⟨ea, fun dx n ne => ?_⟩⟩
    refine ⟨_, rfl, _, rfl, a, Cc, rfl, T, nof _ (by simp), .inr ⟨dx, _, upd_same, by rw [upd_ne ne, upd_same], by simp, ?_⟩⟩
    refine hq dx _ n ne (by rw [upd_ne (Ne.symm ne), upd_same]) (by rw [upd_same]; rfl) fun b h1 h2 => by rw [upd_ne h2, upd_ne h1, upd_ne h2]
  · cases hb
end Ev
end
section
namespace Ev
open PySem PySem.Spec PyProof.Rows L2

structure Cok (X : Cx) (g : Gx) (W : WX) (N : List Str) (sg : Sig) (call : Call) (bl : List Str) (n : Nat) (cx : Cxt) : Prop where
  k : Ctx X g W
  N : X.N = N
  sc : X.env.scope = cx.sc
  fn : ∀ x, cx.fn x = true → X.fn x = true
  fr : ∀ x ∈ bl, X.mg x = none
  gl : g.gl = fun x => sg.globs.lookup x
  pn : g.pn = []
  room : Room n X.A
  ce : ∀ f, (sg.modes.lookup f).isSome = true → Callee X g sg call n f
  rm2 : Room 2 X.A
  rz : ∀ x fs, sg.excs.lookup x = some fs → Raiser X x fs
  xc : ∀ x fs, sg.excs.lookup x = some fs → Caught X sg x fs
  rb : sg.excs.isEmpty = false → ∃ R, X.mg "RestError" = some (.ref R)
structure Stm (X : Cx) (g : Gx) (sg : Sig) : Prop where
  bk : X.env.blockKind = .function
  po : PassesOwn (model X.prog X.w) X.A X.env X.xe
  hs : X.stack = X.env :: X.outer
  hf : X.env.frame = some X.env.locals
  rf : ∀ f r, sg.refs.lookup f = some r → Gl X f → RefOk X g sg f r

theorem isCell_ok {sc : Scope} {x : Str} (h : isCell sc x = true) : sc.names.lookup x = some .cell := by
  unfold isCell at h
  split at h
  · assumption
  · cases h
theorem name_ok {X : Cx} {N : List Str} {cx : Cxt} {i : Nat} {x : Str} (eN : X.N = N) (e : X.env.scope = cx.sc) (h : nameOk N cx i x = true) :
    X.N[i]? = some x ∧ Vis X.env.scope x ∧ (x == ("__debug__" : Str)) = false ∧ (x == ("__classdict__" : Str)) = false := by
  unfold nameOk at h
  simp only [Bool.and_eq_true, decide_eq_true_eq, Bool.not_eq_true'] at h
  exact ⟨by rw [eN]; exact h.1.1.1, by rw [e]; exact vis_ok h.1.1.2, h.1.2, h.2⟩
theorem loc_ok {X : Cx} {N : List Str} {cx : Cxt} {i : Nat} {x : Str} (eN : X.N = N) (e : X.env.scope = cx.sc) (ef : ∀ x, cx.fn x = true → X.fn x = true) (h : locOk N cx i x = true) :
    X.N[i]? = some x ∧ Loc X.env.scope x ∧ (X.fn x = true ∨ X.env.scope.names.lookup x = some .local) := by
  unfold locOk at h
  simp only [Bool.and_eq_true, decide_eq_true_eq, Bool.or_eq_true] at h
  refine ⟨by rw [eN]; exact h.1, ?_⟩
  rw [e]
  rcases h.2 with q | q
  · exact ⟨.inl (isLocal_ok q), .inr (isLocal_ok q)⟩
  · exact ⟨.inr (isCell_ok q.1), .inl (ef x q.2)⟩
theorem plainT_ok {e : Expr} (h : plainT e = true) (env : PySem.Env) (whole : Sem Value) : isTrue e env whole = (do let v ← whole; standAt e.pos; holding [v] (truthy v)) := by
  cases e <;> first | rfl | cases h
theorem notSet_ok {e : Expr} (h : isSet e = false) (env : PySem.Env) (x : Value) : foldedSetIterable e env x = pure x := by
  cases e <;> first | rfl | cases h
theorem swaps_plain {e : Expr} (h : isComp e = false) (t : Option Expr) (l : Nat) (env : PySem.Env) : swapsWith e t l env = pure false := by
  cases e <;> first | rfl | cases h
theorem swaps_comp {elt : Expr} {gs : List Comprehension} {s : Scope} {vp p : Pos} {x : Str} {l : Nat} {env : PySem.Env} : swapsWith (.ListComp elt gs s vp) (some (.Name x p)) l env = pure (env.blockKind == .function && env.kindOf x == some .local && p.line == vp.line && !(s.names.any fun (n, k) => n == x && (k == .local || k == .cell))) := rfl
theorem bool_test {X : Cx} {g : Gx} {sg : Sig} {call : Call} {W : WX} {c : C} {e : Expr} (hv : (den sg call g.pins c).P = ((den sg call g.pins c).E >>= fz)) (h : plainT e = true) (he : PE X e (semE g sg call W c)) : PT X e (semT g sg call W c) :=
  PT.imp (fun σ H Q hq => test_of hv hq) (pt_val he (fun w => plainT_ok h X.env w))

structure Sound (N : List Str) (sg : Sig) (call : Call) (bl : List Str) (n : Nat) (c : C) : Prop where
  V : isV c = true → ∀ pins, (den sg call pins c).P = ((den sg call pins c).E >>= fz) ∧ (den sg call pins c).O = ((den sg call pins c).E >>= fun t => intOf t >>= fun i => M.pure (some i)) := by intro h; first | exact Bool.noConfusion (show false = true from h) | exact fun _ => ⟨rfl, rfl⟩
  E : ∀ {X g W cx e}, Cok X g W N sg call bl n cx → (chk N sg bl c).E cx e = true → PE X e (semE g sg call W c) := by intro _ _ _ _ _ _ h; exact Bool.noConfusion (show false = true from h)
  T : ∀ {X g W cx e}, Cok X g W N sg call bl n cx → (chk N sg bl c).T cx e = true → PT X e (semT g sg call W c) := by intro _ _ _ _ _ _ h; exact Bool.noConfusion (show false = true from h)
  Wt : ∀ {X g W cx e}, Cok X g W N sg call bl n cx → (chk N sg bl c).Wt cx e = true → PW X e (semT g sg call W c) := by intro _ _ _ _ _ _ h; exact Bool.noConfusion (show false = true from h)
  A : ∀ {X g W cx es}, Cok X g W N sg call bl n cx → (chk N sg bl c).A cx es = true → PA X es (semA g sg call W c) := by intro _ _ _ _ _ _ h; exact Bool.noConfusion (show false = true from h)
  O : ∀ {X g W cx o}, Cok X g W N sg call bl n cx → (chk N sg bl c).O cx o = true → PO X o (semO g sg call W c) := by intro _ _ _ _ _ _ h; exact Bool.noConfusion (show false = true from h)
  I : ∀ {X g W cx tg e}, Cok X g W N sg call bl n cx → (chk N sg bl c).I cx tg e = true → PI X tg e (semI g sg call W c) := by intro _ _ _ _ _ _ _ h; exact Bool.noConfusion (show false = true from h)
  G : ∀ {X g W cx e}, Cok X g W N sg call bl n cx → (chk N sg bl c).G cx e = true → PG X e (tG g sg call c) := by intro _ _ _ _ _ _ h; exact Bool.noConfusion (show false = true from h)
  Gs : ∀ {X g W cx es}, Cok X g W N sg call bl n cx → (chk N sg bl c).Gs cx es = true → PGs X es (tGs g sg call c) ∧ (den sg call g.pins c).Gs.length = gsLen c := by intro _ _ _ _ _ _ h; exact Bool.noConfusion (show false = true from h)
  S : ∀ {X g W cx st}, Cok X g W N sg call bl n cx → Stm X g sg → (chk N sg bl c).S cx st = true → PS X st (semS g sg call W c) := by intro _ _ _ _ _ _ _ h; exact Bool.noConfusion (show false = true from h)
  B : ∀ {X g W cx ss}, Cok X g W N sg call bl n cx → Stm X g sg → (chk N sg bl c).B cx ss = true → PSs X ss (semS g sg call W c) := by intro _ _ _ _ _ _ _ h; exact Bool.noConfusion (show false = true from h)
section
variable {N : List Str} {sg : Sig} {call : Call} {bl : List Str} {n : Nat} {a b c as : C}
theorem Sound.P (h : Sound N sg call bl n a) {X : Cx} {g : Gx} {W : WX} {cx : Cxt} {e : Expr} (k : Cok X g W N sg call bl n cx) (v : isV a = true) (q : (chk N sg bl a).E cx e = true) : PE X e (semP g sg call W a) :=
  s_P (h.E k q) (h.V v g.pins).1
/-- a value's piece whose text is right -/
theorem sound_v {E : Cxt → Expr → Bool} (hc : chk N sg bl c = ofV E) (hv : ∀ pins, (den sg call pins c).P = ((den sg call pins c).E >>= fz) ∧ (den sg call pins c).O = ((den sg call pins c).E >>= fun t => intOf t >>= fun i => M.pure (some i)))
    (h : ∀ {X g W cx e}, Cok X g W N sg call bl n cx → E cx e = true → PE X e (semE g sg call W c)) : Sound N sg call bl n c where
  V := fun _ => hv
  E := fun k q => h k (by rw [hc] at q; exact q)
  T := fun {X g W cx e} k q => by
    rw [hc] at q
    simp only [ofV, Bool.and_eq_true] at q
    exact bool_test (hv g.pins).1 q.1 (h k q.2)
  Wt := fun k q => by rw [hc] at q; exact Bool.noConfusion (show false = true from q)
  A := fun k q => by rw [hc] at q; exact Bool.noConfusion (show false = true from q)
  O := fun {X g W cx o} k q => by
    rw [hc] at q
    cases o with
    | none => exact Bool.noConfusion (show false = true from q)
    | some e => exact s_O (hv g.pins).2 (h k q)
  I := fun k q => by rw [hc] at q; exact Bool.noConfusion (show false = true from q)
  G := fun k q => by rw [hc] at q; exact Bool.noConfusion (show false = true from q)
  Gs := fun k q => by rw [hc] at q; exact Bool.noConfusion (show false = true from q)
  S := fun k _ q => by rw [hc] at q; exact Bool.noConfusion (show false = true from q)
  B := fun k _ q => by rw [hc] at q; exact Bool.noConfusion (show false = true from q)
/-- .. with a test of its own -/
theorem sound_t {E T : Cxt → Expr → Bool} (hc : chk N sg bl c = { ofV E with T := T }) (hv : ∀ pins, (den sg call pins c).P = ((den sg call pins c).E >>= fz) ∧ (den sg call pins c).O = ((den sg call pins c).E >>= fun t => intOf t >>= fun i => M.pure (some i)))
    (h : ∀ {X g W cx e}, Cok X g W N sg call bl n cx → E cx e = true → PE X e (semE g sg call W c)) (ht : ∀ {X g W cx e}, Cok X g W N sg call bl n cx → T cx e = true → PT X e (semT g sg call W c)) : Sound N sg call bl n c where
  V := fun _ => hv
  E := fun k q => h k (by rw [hc] at q; exact q)
  T := fun k q => ht k (by rw [hc] at q; exact q)
  Wt := fun k q => by rw [hc] at q; exact Bool.noConfusion (show false = true from q)
  A := fun k q => by rw [hc] at q; exact Bool.noConfusion (show false = true from q)
  O := fun {X g W cx o} k q => by
    rw [hc] at q
    cases o with
    | none => exact Bool.noConfusion (show false = true from q)
    | some e => exact s_O (hv g.pins).2 (h k q)
  I := fun k q => by rw [hc] at q; exact Bool.noConfusion (show false = true from q)
  G := fun k q => by rw [hc] at q; exact Bool.noConfusion (show false = true from q)
  Gs := fun k q => by rw [hc] at q; exact Bool.noConfusion (show false = true from q)
  S := fun k _ q => by rw [hc] at q; exact Bool.noConfusion (show false = true from q)
  B := fun k _ q => by rw [hc] at q; exact Bool.noConfusion (show false = true from q)
theorem sound_w {E T : Cxt → Expr → Bool} (hc : chk N sg bl c = { ofV E with T := T, Wt := T }) (hv : ∀ pins, (den sg call pins c).P = ((den sg call pins c).E >>= fz) ∧ (den sg call pins c).O = ((den sg call pins c).E >>= fun t => intOf t >>= fun i => M.pure (some i)))
    (h : ∀ {X g W cx e}, Cok X g W N sg call bl n cx → E cx e = true → PE X e (semE g sg call W c)) (ht : ∀ {X g W cx e}, Cok X g W N sg call bl n cx → T cx e = true → PW X e (semT g sg call W c)) : Sound N sg call bl n c where
  V := fun _ => hv
  E := fun k q => h k (by rw [hc] at q; exact q)
  T := fun k q => (ht k (by rw [hc] at q; exact q)).pt
  Wt := fun k q => ht k (by rw [hc] at q; exact q)
  A := fun k q => by rw [hc] at q; exact Bool.noConfusion (show false = true from q)
  O := fun {X g W cx o} k q => by
    rw [hc] at q
    cases o with
    | none => exact Bool.noConfusion (show false = true from q)
    | some e => exact s_O (hv g.pins).2 (h k q)
  I := fun k q => by rw [hc] at q; exact Bool.noConfusion (show false = true from q)
  G := fun k q => by rw [hc] at q; exact Bool.noConfusion (show false = true from q)
  Gs := fun k q => by rw [hc] at q; exact Bool.noConfusion (show false = true from q)
  S := fun k _ q => by rw [hc] at q; exact Bool.noConfusion (show false = true from q)
  B := fun k _ q => by rw [hc] at q; exact Bool.noConfusion (show false = true from q)

theorem sd_var {i : Nat} : Sound N sg call bl n (.var i) := sound_v rfl (fun _ => ⟨rfl, rfl⟩) fun {X g W cx e} k h => by
  split at h
  · obtain ⟨h1, h2, h3, h4⟩ := name_ok k.N k.sc h
    exact s_var k.k h1 h2 h3 h4
  · cases h
theorem sd_mov {i : Nat} : Sound N sg call bl n (.mov i) := sound_v rfl (fun _ => ⟨rfl, rfl⟩) fun {X g W cx e} k h => by
  split at h
  · obtain ⟨h1, h2, h3, h4⟩ := name_ok k.N k.sc h
    exact s_mov k.k h1 h2 h3 h4
  · cases h
theorem sd_int {i : Int} : Sound N sg call bl n (.int i) := sound_v rfl (fun _ => ⟨rfl, rfl⟩) fun {X g W cx e} k h => by
  split at h
  · cases of_decide_eq_true h
    exact s_lit (d := .int i) _ rfl (fun _ => .int _) pe_int
  · cases h
theorem sd_bl {i : Bool} : Sound N sg call bl n (.bl i) := sound_v rfl (fun _ => ⟨rfl, rfl⟩) fun {X g W cx e} k h => by
  split at h
  · cases of_decide_eq_true h
    exact s_lit (d := .bool i) _ rfl (fun _ => .bl _) pe_bl
  · cases h
theorem sd_non : Sound N sg call bl n .non := sound_v rfl (fun _ => ⟨rfl, rfl⟩) fun {X g W cx e} k h => by
  split at h
  · exact s_lit (d := .none) _ rfl (fun _ => .non) pe_non
  · cases h
theorem sd_str {i : Str} : Sound N sg call bl n (.str i) := sound_v rfl (fun _ => ⟨rfl, rfl⟩) fun {X g W cx e} k h => by
  split at h
  · cases of_decide_eq_true h
    exact s_lit (d := .str i) _ rfl (fun _ => .str _) pe_str
  · cases h
theorem sd_glob {x : Str} : Sound N sg call bl n (.glob x) := sound_v rfl (fun _ => ⟨rfl, rfl⟩) fun {X g W cx e} k h => by
  split at h
  · simp only [Bool.and_eq_true, decide_eq_true_eq] at h
    obtain ⟨⟨rfl, h2⟩, h3⟩ := h
    obtain ⟨d, hd⟩ := Option.isSome_iff_exists.mp h3
    obtain ⟨g1, g2⟩ := gl_ok k.sc h2
    exact s_glob k.k g1 hd (by rw [k.gl]; exact hd) g2
  · cases h
theorem sd_bin {op : Bop} (ha : Sound N sg call bl n a) (hb : Sound N sg call bl n b) : Sound N sg call bl n (.bin op a b) := sound_v rfl (fun _ => ⟨rfl, rfl⟩) fun {X g W cx e} k h => by
  split at h
  · simp only [Bool.and_eq_true, decide_eq_true_eq] at h
    obtain ⟨⟨⟨⟨rfl, v1⟩, v2⟩, h1⟩, h2⟩ := h
    exact s_bin k.k (ha.P k v1 h1) (hb.P k v2 h2)
  · cases h
theorem sd_neg (ha : Sound N sg call bl n a) : Sound N sg call bl n (.neg a) := sound_v rfl (fun _ => ⟨rfl, rfl⟩) fun {X g W cx e} k h => by
  split at h
  · simp only [Bool.and_eq_true] at h
    exact s_neg k.k (ha.P k h.1 h.2)
  · cases h
theorem sd_cmp {op : Cop} (ha : Sound N sg call bl n a) (hb : Sound N sg call bl n b) : Sound N sg call bl n (.cmp op a b) := by
  refine sound_t rfl (fun _ => ⟨rfl, rfl⟩) (fun {X g W cx e} k h => ?_) (fun {X g W cx e} k h => ?_)
  · split at h
    · simp only [Bool.and_eq_true, cmpOp, decide_eq_true_eq, Bool.not_eq_true'] at h
      obtain ⟨⟨⟨⟨⟨rfl, v1⟩, v2⟩, hm⟩, h1⟩, h2⟩ := h
      exact s_cmp k.k hm (ha.P k v1 h1) (hb.P k v2 h2)
    · cases h
  · split at h
    · simp only [Bool.and_eq_true, cmpOp, decide_eq_true_eq, Bool.not_eq_true'] at h
      obtain ⟨⟨⟨⟨⟨rfl, v1⟩, v2⟩, hm⟩, h1⟩, h2⟩ := h
      exact s_cmpT k.k hm (ha.P k v1 h1) (hb.P k v2 h2)
    · cases h
theorem sd_chain {o1 o2 : Cop} (ha : Sound N sg call bl n a) (hb : Sound N sg call bl n b) (hc : Sound N sg call bl n c) : Sound N sg call bl n (.chain o1 o2 a b c) := by
  refine sound_t rfl (fun _ => ⟨rfl, rfl⟩) (fun {X g W cx e} k h => ?_) (fun {X g W cx e} k h => ?_)
  · split at h
    · simp only [Bool.and_eq_true, cmpOp, decide_eq_true_eq, Bool.not_eq_true'] at h
      obtain ⟨⟨⟨⟨⟨⟨⟨⟨rfl, rfl⟩, v1⟩, v2⟩, v3⟩, hm⟩, h1⟩, h2⟩, h3⟩ := h
      exact s_chain k.k hm (ha.P k v1 h1) (hb.P k v2 h2) (hc.P k v3 h3)
    · cases h
  · split at h
    · simp only [Bool.and_eq_true, cmpOp, decide_eq_true_eq, Bool.not_eq_true'] at h
      obtain ⟨⟨⟨⟨⟨⟨⟨⟨rfl, rfl⟩, v1⟩, v2⟩, v3⟩, hm⟩, h1⟩, h2⟩, h3⟩ := h
      exact s_chainT k.k hm (ha.P k v1 h1) (hb.P k v2 h2) (hc.P k v3 h3)
    · cases h
theorem sd_and (ha : Sound N sg call bl n a) (hb : Sound N sg call bl n b) : Sound N sg call bl n (.and a b) := by
  refine sound_w rfl (fun _ => ⟨rfl, rfl⟩) (fun {X g W cx e} k h => ?_) (fun {X g W cx e} k h => ?_)
  · split at h
    · simp only [Bool.and_eq_true] at h
      obtain ⟨⟨⟨v1, v2⟩, h1⟩, h2⟩ := h
      exact s_and (ha.P k v1 h1) (pe_one (hb.P k v2 h2))
    · simp only [Bool.and_eq_true] at h
      obtain ⟨⟨⟨v1, v2⟩, h1⟩, h2⟩ := h
      exact s_and (ha.P k v1 h1) (hb.P k v2 h2)
    · cases h
  · split at h
    · simp only [Bool.and_eq_true] at h
      exact s_andT (ha.T k h.1) (pw_and1 (hb.T k h.2))
    · simp only [Bool.and_eq_true] at h
      exact s_andT (ha.T k h.1) (hb.Wt k h.2)
    · cases h
theorem sd_or (ha : Sound N sg call bl n a) (hb : Sound N sg call bl n b) : Sound N sg call bl n (.or a b) := by
  refine sound_w rfl (fun _ => ⟨rfl, rfl⟩) (fun {X g W cx e} k h => ?_) (fun {X g W cx e} k h => ?_)
  · split at h
    · simp only [Bool.and_eq_true] at h
      obtain ⟨⟨⟨v1, v2⟩, h1⟩, h2⟩ := h
      exact s_or (ha.P k v1 h1) (pe_one (hb.P k v2 h2))
    · simp only [Bool.and_eq_true] at h
      obtain ⟨⟨⟨v1, v2⟩, h1⟩, h2⟩ := h
      exact s_or (ha.P k v1 h1) (hb.P k v2 h2)
    · cases h
  · split at h
    · simp only [Bool.and_eq_true] at h
      exact s_orT (ha.T k h.1) (pw_or1 (hb.T k h.2))
    · simp only [Bool.and_eq_true] at h
      exact s_orT (ha.T k h.1) (hb.Wt k h.2)
    · cases h
theorem sd_not (ha : Sound N sg call bl n a) : Sound N sg call bl n (.not a) := by
  refine sound_t rfl (fun _ => ⟨rfl, rfl⟩) (fun {X g W cx e} k h => ?_) (fun {X g W cx e} k h => ?_)
  · split at h
    · simp only [Bool.and_eq_true] at h
      exact s_not (ha.P k h.1 h.2)
    · cases h
  · split at h
    · exact s_notT (ha.T k h)
    · cases h
theorem sd_ite (hc : Sound N sg call bl n c) (ha : Sound N sg call bl n a) (hb : Sound N sg call bl n b) : Sound N sg call bl n (.ite c a b) := by
  refine sound_t rfl (fun _ => ⟨rfl, rfl⟩) (fun {X g W cx e} k h => ?_) (fun {X g W cx e} k h => Bool.noConfusion (show false = true from h))
  split at h
  · simp only [Bool.and_eq_true] at h
    obtain ⟨⟨⟨⟨v1, v2⟩, h0⟩, h1⟩, h2⟩ := h
    exact s_ite (hc.T k h0) (ha.E k h1) (hb.E k h2)
  · cases h
theorem sd_call {f : Str} (ha : Sound N sg call bl n as) : Sound N sg call bl n (.call f as) := sound_v rfl (fun _ => ⟨rfl, rfl⟩) fun {X g W cx e} k h => by
  split at h
  · simp only [Bool.and_eq_true, decide_eq_true_eq] at h
    obtain ⟨⟨⟨⟨rfl, h1⟩, h2⟩, h3⟩, h4⟩ := h
    obtain ⟨g1, g2⟩ := gl_ok k.sc h1
    exact s_call k.k k.room (k.ce _ h2) k.pn g1 g2 h3 (ha.A k h4)
  · cases h
theorem contains_mem {x : Str} (h : bl.contains x = true) : x ∈ bl := List.contains_iff_mem.mp h
theorem sd_bi {f : Bi} (ha : Sound N sg call bl n as) : Sound N sg call bl n (.bi f as) := sound_v rfl (fun _ => ⟨rfl, rfl⟩) fun {X g W cx e} k h => by
  split at h
  · simp only [Bool.and_eq_true, decide_eq_true_eq] at h
    obtain ⟨⟨⟨⟨rfl, h1⟩, h2⟩, h3⟩, h4⟩ := h
    exact s_bi k.k (gl_ok k.sc h1).1 (k.fr _ (contains_mem h2)) h3 (ha.A k h4)
  · cases h
theorem sd_tup (ha : Sound N sg call bl n as) : Sound N sg call bl n (.tup as) := sound_v rfl (fun _ => ⟨rfl, rfl⟩) fun {X g W cx e} k h => by
  split at h
  · exact s_tup (ha.A k h)
  · cases h
theorem sd_lst (ha : Sound N sg call bl n as) : Sound N sg call bl n (.lst as) := sound_v rfl (fun _ => ⟨rfl, rfl⟩) fun {X g W cx e} k h => by
  split at h
  · exact s_lst (ha.A k h)
  · cases h
theorem sd_idx (ha : Sound N sg call bl n a) (hb : Sound N sg call bl n b) : Sound N sg call bl n (.idx a b) := sound_v rfl (fun _ => ⟨rfl, rfl⟩) fun {X g W cx e} k h => by
  split at h
  · simp only [Bool.and_eq_true] at h
    obtain ⟨⟨⟨⟨v1, v2⟩, hp⟩, h1⟩, h2⟩ := h
    exact s_idx k.k hp (ha.P k v1 h1) (hb.P k v2 h2)
  · cases h
theorem sd_slc (ha : Sound N sg call bl n a) (hb : Sound N sg call bl n b) (hc : Sound N sg call bl n c) : Sound N sg call bl n (.slc a b c) := sound_v rfl (fun _ => ⟨rfl, rfl⟩) fun {X g W cx e} k h => by
  split at h
  · simp only [Bool.and_eq_true] at h
    obtain ⟨⟨⟨⟨⟨v1, _⟩, _⟩, h1⟩, h2⟩, h3⟩ := h
    exact s_slc k.k (ha.P k v1 h1) (hb.O k h2) (hc.O k h3)
  · cases h
theorem sd_mxd (ha : Sound N sg call bl n a) (hb : Sound N sg call bl n b) : Sound N sg call bl n (.mxd a b) := sound_v rfl (fun _ => ⟨rfl, rfl⟩) fun {X g W cx e} k h => by
  split at h
  · simp only [Bool.and_eq_true, decide_eq_true_eq] at h
    obtain ⟨⟨⟨⟨⟨⟨⟨⟨rfl, rfl⟩, h1⟩, h2⟩, h3⟩, v1⟩, v2⟩, h4⟩, h5⟩ := h
    exact s_mxd k.k (gl_ok k.sc h1).1 (k.fr _ (contains_mem h2)) h3 (ha.P k v1 h4) (hb.P k v2 h5)
  · cases h
end
end Ev
end
section
namespace Ev
open PySem PySem.Spec PyProof.Rows L2
section
variable {N : List Str} {sg : Sig} {call : Call} {bl : List Str} {n : Nat} {a b c as tg it cond body e : C}

theorem Cok.blk {X : Cx} {g : Gx} {W : WX} {cx : Cxt} (k : Cok X g W N sg call bl n cx) (scope : Scope) (s : Shared) (H : Hp) (Cc : Addr) (cl : List (Str × Addr)) (fp : List Addr) :
    Cok (X.blk s H scope (compEnvC scope cl Cc X.env) fp) g W0 N sg call bl n (blkCx scope cx) where
  k := ⟨k.k.K, k.k.mg, k.k.calm, k.k.un, k.k.gd, k.k.nd, fun _ _ x => by
    obtain ⟨_, _, _, _, _, _, _, _, _, _, _, _, _, _, _, _, z⟩ := x
    exact z.elim, k.k.glo⟩
  N := k.N
  sc := by
    show relS scope X.env.scope = relS scope cx.sc
    rw [k.sc]
  fn := fun x h => h
  fr := k.fr
  gl := k.gl
  pn := k.pn
  room := k.room
  ce := fun f h => ⟨(k.ce f h).ex⟩
  rm2 := k.rm2
  rz := fun x fs h => ⟨(k.rz x fs h).ex⟩
  xc := fun x fs h => ⟨(k.xc x fs h).ex⟩
  rb := k.rb
theorem own_map (vs : List Nat) : (ownOf N vs).map (·.2) = vs := by
  unfold ownOf
  rw [List.map_map]
  exact List.map_id' vs
theorem sd_no : Sound N sg call bl n .no where
  O := fun {X g W cx o} k h => by
    cases o with
    | none => exact s_noO
    | some e => exact Bool.noConfusion (show false = true from h)
theorem semT_no {X : Cx} {g : Gx} {W : WX} : PTs X [] (semT g sg call W .no) := by
  refine ⟨fun pins s σ H Q I hq => pts_nil.run pins s σ H Q I ?_⟩
  obtain ⟨env, Mu, st, hw⟩ := hq
  exact hw H Mu (.refl st)
theorem isNo_eq {c : C} (h : isNo c = true) : c = .no := by
  cases c <;> first | rfl | cases h
/-- the parts of a comprehension -/
theorem lc_parts {vs : List Nat} {X : Cx} {g : Gx} {W : WX} {cx : Cxt} {elt : Expr} {tgx itx : Expr} {ifs : List Expr} {scope : Scope} (pos : Pos) (hi : Sound N sg call bl n it) (ht : Sound N sg call bl n tg) (hc : Sound N sg call bl n cond) (hb : Sound N sg call bl n body) (k : Cok X g W N sg call bl n cx)
    (h : (chk N sg bl (.lc vs tg it cond body)).E cx (.ListComp elt [⟨tgx, itx, ifs, 0⟩] scope pos) = true) :
    PI X tgx itx (semI g sg call W it) ∧ BlkOk X.N X.env.scope scope (ownOf N vs) ∧
    (∀ (s : Shared) (H : Hp) (C : Addr) (cl : List (Str × Addr)) (fp : List Addr), PG (X.blk s H scope (compEnvC scope cl C X.env) fp) tgx (tG g sg call tg)) ∧
    (∀ (s : Shared) (H : Hp) (C : Addr) (cl : List (Str × Addr)) (fp : List Addr), PTs (X.blk s H scope (compEnvC scope cl C X.env) fp) ifs (semT g sg call W0 cond)) ∧
    (∀ (s : Shared) (H : Hp) (C : Addr) (cl : List (Str × Addr)) (fp : List Addr), PE (X.blk s H scope (compEnvC scope cl C X.env) fp) elt (semP g sg call W0 body)) ∧
    (∀ j ∈ tgS tg, j ∈ vs) ∧ (∀ x, foldedSetIterable itx X.env x = pure x) := by
  simp only [chk, ofV, Bool.and_eq_true, Bool.not_eq_true'] at h
  obtain ⟨⟨⟨⟨⟨⟨⟨h1, h2⟩, h3⟩, h4⟩, h5⟩, h6⟩, h7⟩, h8⟩ := h
  refine ⟨hi.I k h4, ?_, fun s H C cl fp => ht.G (k.blk scope s H C cl fp) h5, fun s H C cl fp => ?_, fun s H C cl fp => hb.P (k.blk scope s H C cl fp) h7 h8, fun j hj => ?_, fun x => notSet_ok h2 X.env x⟩
  · rw [k.N, k.sc]
    exact blkOk_by h1
  · split at h6
    · rw [isNo_eq h6]
      exact semT_no
    · exact pts_one (hc.T (k.blk scope s H C cl fp) h6)
    · cases h6
  · exact List.contains_iff_mem.mp (List.all_eq_true.mp h3 j hj)
theorem sd_lc {vs : List Nat} (hi : Sound N sg call bl n it) (ht : Sound N sg call bl n tg) (hc : Sound N sg call bl n cond) (hb : Sound N sg call bl n body) : Sound N sg call bl n (.lc vs tg it cond body) := sound_v rfl (fun _ => ⟨rfl, rfl⟩) fun {X g W cx e} k h => by
  have h0 := h
  split at h
  · obtain ⟨p1, p2, p3, p4, p5, p6, p7⟩ := lc_parts ⟨0, 0, 0, 0⟩ hi ht hc hb k h0
    exact s_lc k.k (own_map vs) p1 p2 p3 p4 p5 p6 p7
  · cases h
theorem sd_nil : Sound N sg call bl n .nil where
  A := fun {X g W cx es} k h => by
    cases es with
    | nil => exact s_nil
    | cons _ _ => exact Bool.noConfusion (show false = true from h)
  Gs := fun {X g W cx es} k h => by
    cases es with
    | nil => exact ⟨s_gnil, rfl⟩
    | cons _ _ => exact Bool.noConfusion (show false = true from h)
theorem sd_cons (ha : Sound N sg call bl n a) (hb : Sound N sg call bl n as) : Sound N sg call bl n (.cons a as) where
  A := fun {X g W cx es} k h => by
    cases es with
    | nil => exact Bool.noConfusion (show false = true from h)
    | cons y ys =>
      simp only [chk, Bool.and_eq_true] at h
      obtain ⟨⟨⟨h1, h2⟩, h3⟩, h4⟩ := h
      exact s_cons h1 (ha.P k h2 h3) (hb.A k h4)
  Gs := fun {X g W cx es} k h => by
    cases es with
    | nil => exact Bool.noConfusion (show false = true from h)
    | cons y ys =>
      simp only [chk, Bool.and_eq_true] at h
      obtain ⟨⟨h1, h2⟩, h3⟩ := h
      obtain ⟨q1, q2⟩ := hb.Gs k h3
      exact ⟨s_gcons h1 (ha.G k h2) q1, congrArg (· + 1) q2⟩
theorem sd_iE (ha : Sound N sg call bl n a) : Sound N sg call bl n (.iE a) where
  I := fun {X g W cx tg e} k h => by
    simp only [chk, Bool.and_eq_true] at h
    exact s_iE k.k (ha.P k h.1 h.2)
theorem sd_iR1 (ha : Sound N sg call bl n a) : Sound N sg call bl n (.iR1 a) where
  I := fun {X g W cx tg e} k h => by
    simp only [chk] at h
    split at h
    · simp only [Bool.and_eq_true, decide_eq_true_eq] at h
      obtain ⟨⟨⟨⟨⟨rfl, h1⟩, h2⟩, h3⟩, h4⟩, h5⟩ := h
      exact s_iR1 k.k (gl_ok k.sc h1).1 (k.fr _ (contains_mem h2)) h3 (ha.P k h4 h5)
    · cases h
theorem sd_iR2 (ha : Sound N sg call bl n a) (hb : Sound N sg call bl n b) : Sound N sg call bl n (.iR2 a b) where
  I := fun {X g W cx tg e} k h => by
    simp only [chk] at h
    split at h
    · simp only [Bool.and_eq_true, decide_eq_true_eq] at h
      obtain ⟨⟨⟨⟨⟨⟨⟨⟨rfl, h1⟩, h2⟩, h3⟩, h3'⟩, h4⟩, h5⟩, h6⟩, h7⟩ := h
      exact s_iR2 k.k (gl_ok k.sc h1).1 (k.fr _ (contains_mem h2)) h3 h3' (ha.P k h4 h6) (hb.P k h5 h7)
    · cases h
theorem sd_iRv (ha : Sound N sg call bl n a) : Sound N sg call bl n (.iRv a) where
  I := fun {X g W cx tg e} k h => by
    simp only [chk] at h
    split at h
    · simp only [Bool.and_eq_true, decide_eq_true_eq] at h
      obtain ⟨⟨⟨⟨⟨rfl, h1⟩, h2⟩, h3⟩, h4⟩, h5⟩ := h
      exact s_iRv k.k (gl_ok k.sc h1).1 (k.fr _ (contains_mem h2)) h3 (ha.P k h4 h5)
    · cases h
theorem sd_iEn (ha : Sound N sg call bl n a) : Sound N sg call bl n (.iEn a) where
  I := fun {X g W cx tg e} k h => by
    simp only [chk] at h
    split at h
    · simp only [Bool.and_eq_true, decide_eq_true_eq] at h
      obtain ⟨⟨⟨⟨⟨rfl, h1⟩, h2⟩, h3⟩, h4⟩, h5⟩ := h
      exact s_iEn k.k (gl_ok k.sc h1).1 (k.fr _ (contains_mem h2)) h3 (ha.P k h4 h5)
    · cases h
theorem sd_isi {t : Ty} (ha : Sound N sg call bl n a) : Sound N sg call bl n (.isi a t) := sound_v rfl (fun _ => ⟨rfl, rfl⟩) fun {X g W cx e} k h => by
  split at h
  · simp only [Bool.and_eq_true, decide_eq_true_eq] at h
    obtain ⟨⟨⟨⟨⟨⟨⟨⟨rfl, h1⟩, h2⟩, rfl⟩, h3⟩, h4⟩, h5⟩, v1⟩, h6⟩ := h
    exact s_isi k.k (gl_ok k.sc h1).1 (k.fr _ (contains_mem h2)) (gl_ok k.sc h3).1 (k.fr _ (contains_mem h4)) h5 (ha.P k v1 h6)
  · cases h
theorem sd_lrv (ha : Sound N sg call bl n a) : Sound N sg call bl n (.lrv a) := sound_v rfl (fun _ => ⟨rfl, rfl⟩) fun {X g W cx e} k h => by
  split at h
  · simp only [Bool.and_eq_true, decide_eq_true_eq] at h
    obtain ⟨⟨⟨⟨⟨⟨⟨⟨rfl, h1⟩, h2⟩, rfl⟩, h3⟩, h4⟩, h5⟩, v1⟩, h6⟩ := h
    exact s_lrv k.k (gl_ok k.sc h1).1 (k.fr _ (contains_mem h2)) (gl_ok k.sc h3).1 (k.fr _ (contains_mem h4)) h5 (ha.P k v1 h6)
  · cases h
theorem sd_lrg (ha : Sound N sg call bl n a) (hb : Sound N sg call bl n b) : Sound N sg call bl n (.lrg a b) := sound_v rfl (fun _ => ⟨rfl, rfl⟩) fun {X g W cx e} k h => by
  split at h
  · simp only [Bool.and_eq_true, decide_eq_true_eq] at h
    obtain ⟨⟨⟨⟨⟨⟨⟨⟨⟨⟨⟨rfl, h1⟩, h2⟩, rfl⟩, h3⟩, h4⟩, h5⟩, h5'⟩, v1⟩, v2⟩, h6⟩, h7⟩ := h
    exact s_lrg k.k (gl_ok k.sc h1).1 (k.fr _ (contains_mem h2)) (gl_ok k.sc h3).1 (k.fr _ (contains_mem h4)) h5 h5' (ha.P k v1 h6) (hb.P k v2 h7)
  · cases h
theorem sd_lr1 (ha : Sound N sg call bl n a) : Sound N sg call bl n (.lr1 a) := sound_v rfl (fun _ => ⟨rfl, rfl⟩) fun {X g W cx e} k h => by
  split at h
  · simp only [Bool.and_eq_true, decide_eq_true_eq] at h
    obtain ⟨⟨⟨⟨⟨⟨⟨⟨rfl, h1⟩, h2⟩, rfl⟩, h3⟩, h4⟩, h5⟩, v1⟩, h6⟩ := h
    exact s_lr1 k.k (gl_ok k.sc h1).1 (k.fr _ (contains_mem h2)) (gl_ok k.sc h3).1 (k.fr _ (contains_mem h4)) h5 (ha.P k v1 h6)
  · cases h
theorem sd_popE {i : Nat} : Sound N sg call bl n (.popE i) := sound_v rfl (fun _ => ⟨rfl, rfl⟩) fun {X g W cx e} k h => by
  split at h
  · simp only [Bool.and_eq_true, decide_eq_true_eq] at h
    obtain ⟨⟨rfl, h1⟩, h2⟩ := h
    obtain ⟨q1, q2, q3, q4⟩ := name_ok k.N k.sc h1
    exact s_popE k.k q1 q2 q3 q4 h2
  · cases h
theorem sd_iR3 (ha : Sound N sg call bl n a) (hb : Sound N sg call bl n b) (hc : Sound N sg call bl n c) : Sound N sg call bl n (.iR3 a b c) where
  I := fun {X g W cx tg e} k h => by
    simp only [chk] at h
    split at h
    · simp only [Bool.and_eq_true, decide_eq_true_eq] at h
      obtain ⟨⟨⟨⟨⟨⟨⟨⟨⟨⟨⟨rfl, h1⟩, h2⟩, h3⟩, h4⟩, h5⟩, v1⟩, v2⟩, v3⟩, h6⟩, h7⟩, h8⟩ := h
      exact s_iR3 k.k (gl_ok k.sc h1).1 (k.fr _ (contains_mem h2)) h3 h4 h5 (ha.P k v1 h6) (hb.P k v2 h7) (hc.P k v3 h8)
    · cases h
theorem sd_iRR (ha : Sound N sg call bl n a) : Sound N sg call bl n (.iRR a) where
  I := fun {X g W cx tg e} k h => by
    simp only [chk] at h
    split at h
    · simp only [Bool.and_eq_true, decide_eq_true_eq] at h
      obtain ⟨⟨⟨⟨⟨⟨⟨⟨rfl, h1⟩, h2⟩, rfl⟩, h3⟩, h4⟩, h5⟩, v1⟩, h6⟩ := h
      exact s_iRR k.k (gl_ok k.sc h1).1 (k.fr _ (contains_mem h2)) (gl_ok k.sc h3).1 (k.fr _ (contains_mem h4)) h5 (ha.P k v1 h6)
    · cases h
theorem sd_iZp (ha : Sound N sg call bl n a) (hb : Sound N sg call bl n b) : Sound N sg call bl n (.iZp a b) where
  I := fun {X g W cx tg e} k h => by
    simp only [chk] at h
    split at h
    · simp only [Bool.and_eq_true, decide_eq_true_eq] at h
      obtain ⟨⟨⟨⟨⟨⟨⟨⟨rfl, h1⟩, h2⟩, h3⟩, h4⟩, v1⟩, v2⟩, h5⟩, h6⟩ := h
      exact s_iZp k.k (gl_ok k.sc h1).1 (k.fr _ (contains_mem h2)) h3 h4 (ha.P k v1 h5) (hb.P k v2 h6)
    · cases h
theorem sd_tN {i : Nat} : Sound N sg call bl n (.tN i) where
  G := fun {X g W cx e} k h => by
    simp only [chk] at h
    split at h
    · obtain ⟨h1, h2, h3⟩ := loc_ok k.N k.sc k.fn h
      exact s_tN k.k h1 h2 h3
    · cases h
theorem sd_tT (ha : Sound N sg call bl n a) : Sound N sg call bl n (.tT a) where
  G := fun {X g W cx e} k h => by
    simp only [chk] at h
    split at h
    · simp only [Bool.and_eq_true, decide_eq_true_eq] at h
      obtain ⟨⟨h1, h2⟩, h3⟩ := h
      obtain ⟨q1, q2⟩ := ha.Gs k h3
      exact s_tT k.k h1 (q2.trans h2) q1
    · cases h

theorem sd_set {i : Nat} (he : Sound N sg call bl n e) (hp : ∀ {vs : List Nat} {tg it cond body : C}, e = .lc vs tg it cond body → Sound N sg call bl n tg ∧ Sound N sg call bl n it ∧ Sound N sg call bl n cond ∧ Sound N sg call bl n body) : Sound N sg call bl n (.set i e) where
  S := fun {X g W cx st} k km h => by
    simp only [chk] at h
    split at h
    · rename_i st x p ea pos
      simp only [Bool.and_eq_true] at h
      obtain ⟨⟨⟨h1, h2⟩, h3⟩, h4⟩ := h
      obtain ⟨l1, l2, l3⟩ := loc_ok k.N k.sc k.fn h1
      split at h4
      · rename_i ea elt gs s vp
        have sw := swaps_comp (elt := elt) (gs := gs) (s := s) (vp := vp) (p := p) (x := x) (l := pos.line) (env := X.env)
        generalize hb : (X.env.blockKind == .function && X.env.kindOf x == some .local && p.line == vp.line && !(s.names.any fun (n, k) => n == x && (k == .local || k == .cell))) = b at sw
        cases b with
        | false => exact s_set k.k l1 l2 l3 sw (he.E k h3)
        | true =>
          simp only [Bool.and_eq_true] at hb
          obtain ⟨⟨⟨b1, b2⟩, b3⟩, b4⟩ := hb
          have lx : X.env.scope.names.lookup x = some .local := by
            have : X.env.kindOf x = some .local := by simpa using b2
            exact this
          have il : isLocal cx.sc x = true := by
            unfold isLocal
            rw [← k.sc, lx]
          have hl : pos.line = p.line := by
            rw [il, b3] at h4
            simp only [Bool.true_and, Bool.or_eq_true, Bool.not_eq_true'] at h4
            rcases h4 with q | q
            · rw [q] at b4
              cases b4
            · simpa using q
          -- a comprehension's piece
          cases e with
          | lc vs tg it cond body =>
            obtain ⟨q1, q2, q3, q4⟩ := hp rfl
            have h3' := h3
            simp only [chk, ofV] at h3'
            split at h3'
            · rename_i hq
              cases hq
              obtain ⟨p1, p2, p3, p4, p5, p6, p7⟩ := lc_parts ⟨0, 0, 0, 0⟩ q2 q1 q3 q4 k h3
              exact s_setLc k.k l1 lx (by rw [← hl]; exact sw) hl (own_map vs) p1 p2 p3 p4 p5 p6 p7
            · cases h3'
          | _ =>
            first
              | exact Bool.noConfusion (show false = true from h2)
              | (simp only [chk, ofV] at h3; split at h3 <;> first | (rename_i hq; cases hq) | cases h3)
              | exact Bool.noConfusion (show false = true from h3)
      · have h4' : isComp ea = false := by
          simpa using h4
        exact s_set k.k l1 l2 l3 (swaps_plain h4' _ _ _) (he.E k h3)
    · cases h
theorem stars_eq {vs : List Expr} : (vs.any fun | .Starred .. => true | _ => false) = vs.any (fun e => !noStar e) := by
  congr 1
  funext e
  cases e <;> rfl
theorem sw_shape {ts vs : List Expr} {env : PySem.Env} {k1 k2 : Nat} {p1 p2 : Pos} : swappedStores [.Tuple ts k1 p1] (.Tuple vs k2 p2) env =
    (if (!(ts.length == 2 || ts.length == 3) || vs.length != ts.length || env.blockKind != .function) = true then pure none
    else if (vs.any fun | .Starred .. => true | _ => false) = true then pure none
    else if ((swNames env.scope ts).length != ts.length || (swNames env.scope ts).eraseDups.length != (swNames env.scope ts).length) = true then pure none
    else if vs.all (foldedForSure 8) = true then pure none
    else if vs.all (constantsAlone 8) = true then (unsupported "assign.tuple-of-constant-expressions:order-of-the-stores" >>= fun (_ : PUnit) => pure (some (swNames env.scope ts)))
    else pure (some (swNames env.scope ts))) := rfl
theorem if_tt {α : Type _} {b : Bool} {x y : α} (h : b = true) : (if b = true then x else y) = x := if_pos h
theorem if_ff {α : Type _} {b : Bool} {x y : α} (h : b = false) : (if b = true then x else y) = y := by rw [h]; rfl
theorem sw_eq {ts vs : List Expr} {env : PySem.Env} {k1 k2 : Nat} {p1 p2 : Pos} (hb : env.blockKind = .function) (hc : (swAny env.scope ts vs).isNone = true ∨ vs.all (constantsAlone 8) = false) :
    swappedStores [.Tuple ts k1 p1] (.Tuple vs k2 p2) env = pure (swAny env.scope ts vs) := by
  have hf : (env.blockKind != ScopeKind.function) = false := by
    rw [hb]
    rfl
  rw [sw_shape, stars_eq, hf, Bool.or_false]
  unfold swAny at hc ⊢
  revert hc
  generalize (!(ts.length == 2 || ts.length == 3) || vs.length != ts.length) = b1
  generalize vs.any (fun e => !noStar e) = b2
  generalize ((swNames env.scope ts).length != ts.length || (swNames env.scope ts).eraseDups.length != (swNames env.scope ts).length) = b3
  generalize vs.all (foldedForSure 8) = b4
  generalize vs.all (constantsAlone 8) = b5
  intro hc
  cases b1 with
  | true => rfl
  | false =>
    cases b2 with
    | true => rfl
    | false =>
      cases b3 with
      | true => rfl
      | false =>
        cases b4 with
        | true => rfl
        | false =>
          cases b5 with
          | true => rcases hc with q | q <;> exact Bool.noConfusion (show false = true from by first | exact q | exact q.symm)
          | false => rfl
theorem sw_none {sc : Scope} {ts vs : List Expr} {env : PySem.Env} {k1 k2 : Nat} {p1 p2 : Pos} (hs : env.scope = sc) (hb : env.blockKind = .function) (h : (swAny sc ts vs).isNone = true) : swappedStores [.Tuple ts k1 p1] (.Tuple vs k2 p2) env = pure none := by
  subst hs
  rw [sw_eq hb (.inl h), Option.isNone_iff_eq_none.mp h]
theorem sw_some {sc : Scope} {ts vs : List Expr} {names : List Str} {env : PySem.Env} {k1 k2 : Nat} {p1 p2 : Pos} (hs : env.scope = sc) (hb : env.blockKind = .function) (h : swAny sc ts vs = some names) (hc : vs.all (constantsAlone 8) = false) : swappedStores [.Tuple ts k1 p1] (.Tuple vs k2 p2) env = pure (some names) := by
  subst hs
  rw [sw_eq hb (.inr hc), h]
theorem sw_other {ts : List Expr} {e : Expr} {env : PySem.Env} {k1 : Nat} {p1 : Pos} (h : ∀ vs k p, e ≠ .Tuple vs k p) : swappedStores [.Tuple ts k1 p1] e env = pure none := by
  cases e <;> first | rfl | exact (h _ _ _ rfl).elim
theorem sws_tuple {ts : List Expr} {e : Expr} {env : PySem.Env} {k1 l : Nat} {p1 : Pos} : swapsWithSole [.Tuple ts k1 p1] e l env = pure false := by
  cases e <;> rfl
theorem sd_asg (ht : Sound N sg call bl n tg) (he : Sound N sg call bl n e) : Sound N sg call bl n (.asg tg e) where
  S := fun {X g W cx st} k km h => by
    simp only [chk] at h
    split at h
    · rename_i st t ea pos
      simp only [Bool.and_eq_true] at h
      obtain ⟨⟨⟨h1, h2⟩, h3⟩, h4⟩ := h
      cases t with
      | Tuple ts kk pp =>
        refine s_asg k.k sws_tuple ?_ rfl (he.P k h1 h2) (ht.G k h3)
        cases ea with
        | Tuple vs _ _ => exact sw_none k.sc km.bk h4
        | _ => exact sw_other fun _ _ _ z => nomatch z
      | _ => exact Bool.noConfusion (show false = true from h4)
    · cases h
theorem sd_par {i j : Nat} (ha : Sound N sg call bl n a) (hb : Sound N sg call bl n b) : Sound N sg call bl n (.par i j a b) where
  S := fun {X g W cx st} k km h => by
    simp only [chk] at h
    split at h
    · simp only [Bool.and_eq_true, decide_eq_true_eq, Bool.not_eq_true'] at h
      obtain ⟨⟨⟨⟨⟨⟨⟨⟨⟨⟨⟨⟨h1, h2⟩, h3⟩, h4⟩, h5⟩, h6⟩, h7⟩, v1⟩, v2⟩, h8⟩, h9⟩, h10⟩, h11⟩ := h
      exact s_par k.k (by rw [k.N]; exact h2) (by rw [k.N]; exact h3) h1 (by rw [k.sc]; exact isLocal_ok h4) (by rw [k.sc]; exact isLocal_ok h5) h6 h7 (ha.P k v1 h8) (hb.P k v2 h9) (sw_some k.sc km.bk h10 h11)
    · cases h
theorem sd_stI {i : Nat} (ha : Sound N sg call bl n a) (hb : Sound N sg call bl n b) : Sound N sg call bl n (.stI i a b) where
  S := fun {X g W cx st} k km h => by
    simp only [chk] at h
    split at h
    · simp only [Bool.and_eq_true] at h
      obtain ⟨⟨⟨⟨⟨h1, h2⟩, v1⟩, v2⟩, h3⟩, h4⟩ := h
      obtain ⟨q1, q2, q3, q4⟩ := name_ok k.N k.sc h1
      refine s_stI k.k q1 q2 q3 q4 ?_ h2 (hb.P k v2 h4) (ha.P k v1 h3)
      unfold swapsWith
      split <;> rfl
    · cases h
theorem sd_st2 {i : Nat} (ha : Sound N sg call bl n a) (hb : Sound N sg call bl n b) (hc : Sound N sg call bl n c) : Sound N sg call bl n (.st2 i a b c) where
  S := fun {X g W cx st} k km h => by
    simp only [chk] at h
    split at h
    · simp only [Bool.and_eq_true] at h
      obtain ⟨⟨⟨⟨⟨⟨⟨⟨h1, h2⟩, h3⟩, v1⟩, v2⟩, v3⟩, h4⟩, h5⟩, h6⟩ := h
      obtain ⟨q1, q2, q3, q4⟩ := name_ok k.N k.sc h1
      refine s_st2 k.k q1 q2 q3 q4 ?_ h2 h3 (hc.P k v3 h6) (ha.P k v1 h4) (hb.P k v2 h5)
      unfold swapsWith
      split <;> rfl
    · cases h
theorem sd_lc2 {i : Nat} {vs : List Nat} (hi : Sound N sg call bl n it) (ht : Sound N sg call bl n tg) (hc : Sound N sg call bl n cond) (hb : Sound N sg call bl n body) : Sound N sg call bl n (.lc2 i vs tg it cond body) where
  S := fun {X g W cx st} k km h => by
    simp only [chk] at h
    split at h
    · rename_i x p elt tgx itx ifs scope vp pos
      simp only [Bool.and_eq_true, Bool.not_eq_true'] at h
      obtain ⟨⟨⟨⟨⟨⟨⟨⟨h0, h1⟩, h2⟩, h3⟩, h4⟩, h5⟩, h6⟩, h8⟩, h9⟩ := h
      obtain ⟨l1, l2, l3⟩ := loc_ok k.N k.sc k.fn h0
      have pBlk : BlkOk X.N X.env.scope scope (ownOf N vs) := by
        rw [k.N, k.sc]
        exact blkOk_by h1
      have pT : ∀ (s : Shared) (H : Hp) (C : Addr) (cl : List (Str × Addr)) (fp : List Addr), PTs (X.blk s H scope (compEnvC scope cl C X.env) fp) ifs (semT g sg call W0 cond) := fun s H C cl fp => by
        split at h6
        · rw [isNo_eq h6]
          exact semT_no
        · exact pts_one (hc.T (k.blk scope s H C cl fp) h6)
        · cases h6
      have pS : ∀ j ∈ tgS tg, j ∈ vs := fun j hj => List.contains_iff_mem.mp (List.all_eq_true.mp h3 j hj)
      have pI := hi.I k h4
      have pG := fun s H C cl fp => ht.G (k.blk scope s H C cl fp) h5
      have pE := fun s H C cl fp => hb.E (k.blk scope s H C cl fp) h8
      have pF := fun z => notSet_ok h2 X.env z
      have sw := swaps_comp (elt := elt) (gs := [⟨tgx, itx, ifs, 0⟩]) (s := scope) (vp := vp) (p := p) (x := x) (l := pos.line) (env := X.env)
      generalize hbq : (X.env.blockKind == .function && X.env.kindOf x == some .local && p.line == vp.line && !(scope.names.any fun (n, k) => n == x && (k == .local || k == .cell))) = b at sw
      cases b with
      | false => exact s_lc2 k.k l1 l2 l3 sw (own_map vs) pI pBlk pG pT pE pS pF
      | true =>
        simp only [Bool.and_eq_true] at hbq
        obtain ⟨⟨⟨b1, b2⟩, b3⟩, b4⟩ := hbq
        have lx : X.env.scope.names.lookup x = some .local := by
          have : X.env.kindOf x = some .local := by simpa using b2
          exact this
        have il : isLocal cx.sc x = true := by
          unfold isLocal
          rw [← k.sc, lx]
        have hl : pos.line = p.line := by
          rw [il, b3, b4] at h9
          simpa using h9
        exact s_lc2Lc k.k l1 lx (by rw [← hl]; exact sw) hl (own_map vs) pI pBlk pG pT pE pS pF
    · cases h
theorem Cok.pin {X : Cx} {g : Gx} {W : WX} {cx : Cxt} {ps : List Nat} {σ : L2.St} (k : Cok X g W N sg call bl n cx) : Cok X (g.pin ps σ) W N sg call bl n cx :=
  ⟨⟨k.k.K, k.k.mg, k.k.calm, k.k.un, k.k.gd, k.k.nd, k.k.tk, k.k.glo⟩, k.N, k.sc, k.fn, k.fr, k.gl, k.pn, k.room, fun f hf => ⟨(k.ce f hf).ex⟩, k.rm2, k.rz, k.xc, k.rb⟩
theorem Stm.pin {X : Cx} {g : Gx} {ps : List Nat} {σ : L2.St} (km : Stm X g sg) : Stm X (g.pin ps σ) sg :=
  ⟨km.bk, km.po, km.hs, km.hf, fun f r h hg => ⟨fun h1 h2 h3 h4 => (km.rf f r h hg).pe h1 h2 h3 h4⟩⟩
theorem sd_lend {h i : Nat} {ix body : C} (ha : Sound N sg call bl n ix) (hb : Sound N sg call bl n body) : Sound N sg call bl n (.lend h i ix body) where
  B := fun {X g W cx ss} k km q => by
    simp only [chk] at q
    split at q
    · simp only [Bool.and_eq_true, decide_eq_true_eq] at q
      obtain ⟨⟨⟨⟨⟨⟨q0, q1⟩, q2⟩, q3⟩, v1⟩, q4⟩, q5⟩ := q
      obtain ⟨l1, l2, l3⟩ := loc_ok k.N k.sc k.fn q1
      obtain ⟨n1, n2, n3, n4⟩ := name_ok k.N k.sc q2
      exact s_lend k.k l1 l2 l3 n1 n2 n3 n4 q0 (swaps_plain rfl _ _ _) q3 (ha.P k v1 q4) fun σ0 => hb.B k.pin km.pin q5
    · cases q
theorem sd_new2 {i : Nat} : Sound N sg call bl n (.new2 i) where
  S := fun {X g W cx st} k km h => by
    simp only [chk] at h
    split at h
    · obtain ⟨l1, l2, l3⟩ := loc_ok k.N k.sc k.fn h
      exact s_new2 k.k l1 l2 l3 (swaps_plain rfl _ _ _)
    · cases h
theorem sd_app2 {i : Nat} (ha : Sound N sg call bl n a) : Sound N sg call bl n (.app2 i a) where
  S := fun {X g W cx st} k km h => by
    simp only [chk] at h
    split at h
    · simp only [Bool.and_eq_true, decide_eq_true_eq] at h
      obtain ⟨⟨⟨⟨⟨rfl, h1⟩, h2⟩, h3⟩, v1⟩, h4⟩ := h
      obtain ⟨q1, q2, q3, q4⟩ := name_ok k.N k.sc h1
      exact s_app2 k.k q1 q2 q3 q4 h2 h3 (ha.E k h4)
    · cases h
theorem sd_appL {i : Nat} (ha : Sound N sg call bl n a) (hb : Sound N sg call bl n b) : Sound N sg call bl n (.appL i a b) where
  S := fun {X g W cx st} k km h => by
    simp only [chk] at h
    split at h
    · simp only [Bool.and_eq_true, decide_eq_true_eq] at h
      obtain ⟨⟨⟨⟨⟨⟨⟨⟨rfl, h1⟩, h2⟩, v1⟩, h3⟩, h4⟩, v2⟩, h5⟩, h6⟩ := h
      obtain ⟨q1, q2, q3, q4⟩ := name_ok k.N k.sc h1
      exact s_appL k.k q1 q2 q3 q4 h2 h3 h4 (hb.P k v2 h6) (ha.P k v1 h5)
    · cases h
theorem sd_app {i : Nat} (ha : Sound N sg call bl n a) : Sound N sg call bl n (.app i a) where
  S := fun {X g W cx st} k km h => by
    simp only [chk] at h
    split at h
    · simp only [Bool.and_eq_true, decide_eq_true_eq] at h
      obtain ⟨⟨⟨⟨⟨rfl, h1⟩, h2⟩, h3⟩, v1⟩, h4⟩ := h
      obtain ⟨q1, q2, q3, q4⟩ := name_ok k.N k.sc h1
      exact s_app k.k q1 q2 q3 q4 h2 h3 (ha.P k v1 h4)
    · cases h
theorem sd_extd {i : Nat} (ha : Sound N sg call bl n a) : Sound N sg call bl n (.extd i a) where
  S := fun {X g W cx st} k km h => by
    simp only [chk] at h
    split at h
    · simp only [Bool.and_eq_true, decide_eq_true_eq] at h
      obtain ⟨⟨⟨⟨⟨rfl, h1⟩, h2⟩, h3⟩, v1⟩, h4⟩ := h
      obtain ⟨q1, q2, q3, q4⟩ := name_ok k.N k.sc h1
      exact s_extd k.k q1 q2 q3 q4 h2 h3 (ha.E k h4)
    · cases h
theorem sd_popS {i : Nat} : Sound N sg call bl n (.popS i) where
  S := fun {X g W cx st} k km h => by
    simp only [chk] at h
    split at h
    · simp only [Bool.and_eq_true, decide_eq_true_eq] at h
      obtain ⟨⟨rfl, h1⟩, h2⟩ := h
      obtain ⟨q1, q2, q3, q4⟩ := name_ok k.N k.sc h1
      exact s_popS k.k q1 q2 q3 q4 h2
    · cases h
theorem sd_exS (ha : Sound N sg call bl n a) : Sound N sg call bl n (.exS a) where
  S := fun {X g W cx st} k km h => by
    simp only [chk] at h
    split at h
    · simp only [Bool.and_eq_true, Bool.not_eq_true'] at h
      obtain ⟨⟨h1, v1⟩, h2⟩ := h
      exact s_exS (swaps_plain h1 _ _ _) (ha.P k v1 h2)
    · cases h
theorem sd_ifS (hc : Sound N sg call bl n c) (ha : Sound N sg call bl n a) (hb : Sound N sg call bl n b) : Sound N sg call bl n (.ifS c a b) where
  S := fun {X g W cx st} k km h => by
    simp only [chk] at h
    split at h
    · simp only [Bool.and_eq_true] at h
      exact s_ifS (hc.T k h.1.1) (ha.B k km h.1.2) (hb.B k km h.2)
    · cases h
theorem sd_forS (ht : Sound N sg call bl n tg) (hi : Sound N sg call bl n it) (hb : Sound N sg call bl n body) : Sound N sg call bl n (.forS tg it body) where
  S := fun {X g W cx st} k km h => by
    simp only [chk] at h
    split at h
    · simp only [Bool.and_eq_true, Bool.not_eq_true'] at h
      obtain ⟨⟨⟨h1, h2⟩, h3⟩, h4⟩ := h
      exact s_forS k.k km.po (hi.I k h2) (ht.G k h3) (hb.B k km h4) fun x => notSet_ok h1 X.env x
    · cases h
theorem sd_whl {f : Nat} (hc : Sound N sg call bl n c) (hb : Sound N sg call bl n body) : Sound N sg call bl n (.whl f c body) where
  S := fun {X g W cx st} k km h => by
    simp only [chk] at h
    split at h
    · simp only [Bool.and_eq_true] at h
      exact s_whl km.po (hc.T k h.1) (hb.B k km h.2)
    · cases h
theorem sd_ret (he : Sound N sg call bl n e) : Sound N sg call bl n (.ret e) where
  S := fun {X g W cx st} k km h => by
    simp only [chk] at h
    split at h
    · simp only [Bool.and_eq_true] at h
      exact s_ret (he.E k h.2)
    · cases h
theorem sd_retN : Sound N sg call bl n .retN where
  S := fun {X g W cx st} k km h => by
    simp only [chk] at h
    split at h
    · exact s_retN
    · cases h
theorem sd_brk : Sound N sg call bl n .brk where
  S := fun {X g W cx st} k km h => by
    simp only [chk] at h
    split at h
    · exact s_brk
    · cases h
theorem sd_cnt : Sound N sg call bl n .cnt where
  S := fun {X g W cx st} k km h => by
    simp only [chk] at h
    split at h
    · exact s_cnt
    · cases h
theorem sd_pass : Sound N sg call bl n .pass where
  S := fun {X g W cx st} k km h => by
    simp only [chk] at h
    split at h
    · exact s_pass
    · cases h
theorem sd_never : Sound N sg call bl n .never where
  S := fun {X g W cx st} k km h => s_never
theorem sd_sNil : Sound N sg call bl n .sNil where
  B := fun {X g W cx ss} k km h => by
    cases ss with
    | nil => exact s_sNil
    | cons _ _ => exact Bool.noConfusion (show false = true from h)
theorem sd_sCons {s r : C} (hs : Sound N sg call bl n s) (hr : Sound N sg call bl n r) : Sound N sg call bl n (.sCons s r) where
  B := fun {X g W cx ss} k km h => by
    simp only [chk] at h
    split at h
    · rename_i hk
      obtain ⟨js, rfl⟩ := isKil_eq hk
      exact s_kil (hr.B k km h)
    · split at h
      · simp only [Bool.and_eq_true] at h
        exact s_sCons (hs.S k km h.1) (hr.B k km h.2)
      · cases h
theorem sd_rse {x : Str} (ha : Sound N sg call bl n as) : Sound N sg call bl n (.rse x as) where
  S := fun {X g W cx st} k km h => by
    simp only [chk] at h
    split at h
    · simp only [Bool.and_eq_true, decide_eq_true_eq] at h
      obtain ⟨⟨⟨⟨rfl, h1⟩, h2⟩, h3⟩, h4⟩ := h
      obtain ⟨fs, hfs⟩ := Option.isSome_iff_exists.mp h2
      obtain ⟨g1, g2⟩ := gl_ok k.sc h1
      exact s_rse k.k k.rm2 (k.rz _ fs hfs) hfs g1 g2 h3 (ha.A k h4)
    · cases h
theorem sd_rv1 (ha : Sound N sg call bl n a) : Sound N sg call bl n (.rv1 a) := sound_v rfl (fun _ => ⟨rfl, rfl⟩) fun {X g W cx e} k h => by
  split at h
  · simp only [Bool.and_eq_true] at h
    exact s_rv1 k.k (ha.P k h.1 h.2)
  · cases h
theorem Cok.tr {X : Cx} {g : Gx} {W W' : WX} {cx : Cxt} (k : Cok X g W N sg call bl n cx) {pn : List (Addr × Obj)} {xe : Value → Shared → Prop} (tk : L2N.Takes (X.tr pn xe) W') : Cok (X.tr pn xe) g W' N sg call bl n cx where
  k := ⟨k.k.K, k.k.mg, k.k.calm, k.k.un, k.k.gd, k.k.nd, tk, k.k.glo⟩
  N := k.N
  sc := k.sc
  fn := k.fn
  fr := k.fr
  gl := k.gl
  pn := k.pn
  room := k.room
  ce := fun f h => ⟨(k.ce f h).ex⟩
  rm2 := k.rm2
  rz := fun x fs h => ⟨(k.rz x fs h).ex⟩
  xc := fun x fs h => ⟨(k.xc x fs h).ex⟩
  rb := k.rb
theorem Stm.tr {X : Cx} {g : Gx} (km : Stm X g sg) {pn : List (Addr × Obj)} {xe : Value → Shared → Prop} (po : PassesOwn (model X.prog X.w) X.A X.env xe) : Stm (X.tr pn xe) g sg :=
  ⟨km.bk, po, km.hs, km.hf, fun f r h hg => ⟨fun h1 h2 h3 h4 => (km.rf f r h hg).pe h1 h2 h3 h4⟩⟩
theorem sd_tryS {x : Str} {j : Option Nat} {su : Hs} (hb : Sound N sg call bl n body) : Sound N sg call bl n (.tryS body x j su) where
  S := fun {X g W cx st} k km h => by
    simp only [chk] at h
    split at h
    · simp only [Bool.and_eq_true, decide_eq_true_eq] at h
      obtain ⟨⟨⟨⟨⟨rfl, h1⟩, h2⟩, h3⟩, h4⟩, h5⟩ := h
      obtain ⟨g1, g2⟩ := gl_ok k.sc h1
      unfold clsOk at h2
      simp only [Bool.and_eq_true, Bool.not_eq_true', Bool.or_eq_true, decide_eq_true_eq] at h2
      refine s_try k.k km.hs km.hf k.N k.sc k.fn km.rf k.xc g1 g2 ?_ h4 h5 fun W' pn xe tk po => hb.B (k.tr tk) (km.tr po) h3
      rcases h2.2 with rfl | q
      · exact k.rb h2.1
      · obtain ⟨fs, hfs⟩ := Option.isSome_iff_exists.mp q
        obtain ⟨Cc, m, _⟩ := (k.xc _ fs hfs).ex
        exact ⟨Cc, m⟩
    · cases h
def lcParts (N : List Str) (sg : Sig) (call : Call) (bl : List Str) (n : Nat) : C → Prop
  | .lc _ tg it cond body => Sound N sg call bl n tg ∧ Sound N sg call bl n it ∧ Sound N sg call bl n cond ∧ Sound N sg call bl n body
  | _ => True
theorem lc_of (h : lcParts N sg call bl n c) {vs : List Nat} {tg it cond body : C} (e : c = .lc vs tg it cond body) : Sound N sg call bl n tg ∧ Sound N sg call bl n it ∧ Sound N sg call bl n cond ∧ Sound N sg call bl n body := by
  cases e
  exact h
theorem sound2 : ∀ c : C, Sound N sg call bl n c ∧ lcParts N sg call bl n c
  | .var _ => ⟨sd_var, trivial⟩
  | .mov _ => ⟨sd_mov, trivial⟩
  | .int _ => ⟨sd_int, trivial⟩
  | .bl _ => ⟨sd_bl, trivial⟩
  | .non => ⟨sd_non, trivial⟩
  | .str _ => ⟨sd_str, trivial⟩
  | .glob _ => ⟨sd_glob, trivial⟩
  | .bin _ a b => ⟨sd_bin (sound2 a).1 (sound2 b).1, trivial⟩
  | .neg a => ⟨sd_neg (sound2 a).1, trivial⟩
  | .cmp _ a b => ⟨sd_cmp (sound2 a).1 (sound2 b).1, trivial⟩
  | .chain _ _ a b c => ⟨sd_chain (sound2 a).1 (sound2 b).1 (sound2 c).1, trivial⟩
  | .and a b => ⟨sd_and (sound2 a).1 (sound2 b).1, trivial⟩
  | .or a b => ⟨sd_or (sound2 a).1 (sound2 b).1, trivial⟩
  | .not a => ⟨sd_not (sound2 a).1, trivial⟩
  | .ite c a b => ⟨sd_ite (sound2 c).1 (sound2 a).1 (sound2 b).1, trivial⟩
  | .call _ as => ⟨sd_call (sound2 as).1, trivial⟩
  | .bi _ as => ⟨sd_bi (sound2 as).1, trivial⟩
  | .tup as => ⟨sd_tup (sound2 as).1, trivial⟩
  | .lst as => ⟨sd_lst (sound2 as).1, trivial⟩
  | .idx a b => ⟨sd_idx (sound2 a).1 (sound2 b).1, trivial⟩
  | .mxd a b => ⟨sd_mxd (sound2 a).1 (sound2 b).1, trivial⟩
  | .slc a b c => ⟨sd_slc (sound2 a).1 (sound2 b).1 (sound2 c).1, trivial⟩
  | .lc _ tg it cond body => ⟨sd_lc (sound2 it).1 (sound2 tg).1 (sound2 cond).1 (sound2 body).1, (sound2 tg).1, (sound2 it).1, (sound2 cond).1, (sound2 body).1⟩
  | .nil => ⟨sd_nil, trivial⟩
  | .cons a as => ⟨sd_cons (sound2 a).1 (sound2 as).1, trivial⟩
  | .no => ⟨sd_no, trivial⟩
  | .iE a => ⟨sd_iE (sound2 a).1, trivial⟩
  | .iR1 a => ⟨sd_iR1 (sound2 a).1, trivial⟩
  | .iR2 a b => ⟨sd_iR2 (sound2 a).1 (sound2 b).1, trivial⟩
  | .isi a _ => ⟨sd_isi (sound2 a).1, trivial⟩
  | .lrv a => ⟨sd_lrv (sound2 a).1, trivial⟩
  | .lrg a b => ⟨sd_lrg (sound2 a).1 (sound2 b).1, trivial⟩
  | .lr1 a => ⟨sd_lr1 (sound2 a).1, trivial⟩
  | .popE _ => ⟨sd_popE, trivial⟩
  | .new2 _ => ⟨sd_new2, trivial⟩
  | .app2 _ a => ⟨sd_app2 (sound2 a).1, trivial⟩
  | .appL _ a b => ⟨sd_appL (sound2 a).1 (sound2 b).1, trivial⟩
  | .iR3 a b c => ⟨sd_iR3 (sound2 a).1 (sound2 b).1 (sound2 c).1, trivial⟩
  | .iEn a => ⟨sd_iEn (sound2 a).1, trivial⟩
  | .iZp a b => ⟨sd_iZp (sound2 a).1 (sound2 b).1, trivial⟩
  | .iRv a => ⟨sd_iRv (sound2 a).1, trivial⟩
  | .iRR a => ⟨sd_iRR (sound2 a).1, trivial⟩
  | .tN _ => ⟨sd_tN, trivial⟩
  | .tT ts => ⟨sd_tT (sound2 ts).1, trivial⟩
  | .sNil => ⟨sd_sNil, trivial⟩
  | .sCons s r => ⟨sd_sCons (sound2 s).1 (sound2 r).1, trivial⟩
  | .kil _ => ⟨{}, trivial⟩
  | .set _ e => ⟨sd_set (sound2 e).1 (lc_of (sound2 e).2), trivial⟩
  | .asg tg e => ⟨sd_asg (sound2 tg).1 (sound2 e).1, trivial⟩
  | .par _ _ a b => ⟨sd_par (sound2 a).1 (sound2 b).1, trivial⟩
  | .par3 _ _ _ _ _ _ => ⟨{}, trivial⟩
  | .stI _ a b => ⟨sd_stI (sound2 a).1 (sound2 b).1, trivial⟩
  | .lend _ _ a b => ⟨sd_lend (sound2 a).1 (sound2 b).1, trivial⟩
  | .st2 _ a b c => ⟨sd_st2 (sound2 a).1 (sound2 b).1 (sound2 c).1, trivial⟩
  | .lc2 _ _ tg it cond body => ⟨sd_lc2 (sound2 it).1 (sound2 tg).1 (sound2 cond).1 (sound2 body).1, trivial⟩
  | .app _ a => ⟨sd_app (sound2 a).1, trivial⟩
  | .extd _ a => ⟨sd_extd (sound2 a).1, trivial⟩
  | .popS _ => ⟨sd_popS, trivial⟩
  | .exS a => ⟨sd_exS (sound2 a).1, trivial⟩
  | .ifS c a b => ⟨sd_ifS (sound2 c).1 (sound2 a).1 (sound2 b).1, trivial⟩
  | .forS tg it body => ⟨sd_forS (sound2 tg).1 (sound2 it).1 (sound2 body).1, trivial⟩
  | .whl _ c body => ⟨sd_whl (sound2 c).1 (sound2 body).1, trivial⟩
  | .ret e => ⟨sd_ret (sound2 e).1, trivial⟩
  | .retN => ⟨sd_retN, trivial⟩
  | .brk => ⟨sd_brk, trivial⟩
  | .cnt => ⟨sd_cnt, trivial⟩
  | .pass => ⟨sd_pass, trivial⟩
  | .never => ⟨sd_never, trivial⟩
  | .rse _ as => ⟨sd_rse (sound2 as).1, trivial⟩
  | .tryS body _ _ _ => ⟨sd_tryS (sound2 body).1, trivial⟩
  | .rv1 a => ⟨sd_rv1 (sound2 a).1, trivial⟩
theorem sound (c : C) : Sound N sg call bl n c := (sound2 c).1
end
end Ev
end
section
namespace Ev
open PySem PySem.Spec PyProof.Rows L2
open L2H (RoomH)

theorem zip_find {α : Type} : ∀ {ps : List Str} {us : List α}, ps.Nodup → us.length = ps.length → ps.filterMap (fun n => ((ps.zip us).lookup n).map (n, ·)) = ps.zip us
  | [], [], _, _ => rfl
  | [], _ :: _, _, h => by cases h
  | _ :: _, [], _, h => by cases h
  | p :: ps, u :: us, nd, h => by
    obtain ⟨n1, n2⟩ := List.nodup_cons.mp nd
    have ih := zip_find (us := us) n2 (by simpa using h)
    have e1 : ((p :: ps).zip (u :: us)).lookup p = some u := by simp
    have e2 : ∀ n ∈ ps, ((p :: ps).zip (u :: us)).lookup n = (ps.zip us).lookup n := fun n hn => by
      have ne : (n == p) = false := by
        refine beq_false_of_ne fun z => n1 (by rw [← z]; exact hn)
      rw [List.zip_cons_cons, List.lookup_cons, ne]
    rw [List.filterMap_cons, e1]
    show (p, u) :: ps.filterMap _ = _
    have e3 : ∀ l : List Str, (∀ n ∈ l, n ∈ ps) → l.filterMap (fun n => (((p :: ps).zip (u :: us)).lookup n).map (n, ·)) = l.filterMap (fun n => ((ps.zip us).lookup n).map (n, ·)) := fun l => by
      induction l with
      | nil => exact fun _ => rfl
      | cons a l ih =>
        intro hm
        rw [List.filterMap_cons, List.filterMap_cons, e2 a (hm a (List.mem_cons_self ..)), ih fun n hn => hm n (List.mem_cons_of_mem _ hn)]
    rw [e3 ps fun _ z => z, ih, List.zip_cons_cons]
theorem room65 {k : Nat} {A : Around} (r : Room k A) : A.units + 65 < cLine := by
  have := r.un
  omega
theorem zip_all {α : Type} : ∀ {ps : List Str} {us : List α}, us.length = ps.length → ps.filter (fun n => ((ps.zip us).lookup n).isNone) = [] := fun {ps us} h => by
  refine List.filter_eq_nil_iff.mpr fun n hn => ?_
  have : ∀ {ps : List Str} {us : List α}, us.length = ps.length → n ∈ ps → ((ps.zip us).lookup n).isSome = true := fun {ps} => by
    induction ps with
    | nil => exact fun {us} _ h => nomatch h
    | cons p ps ih =>
      intro us h hm
      cases us with
      | nil => cases h
      | cons u us =>
        rw [List.zip_cons_cons, List.lookup_cons]
        by_cases e : (n == p) = true
        · rw [e]
          rfl
        · rw [Bool.eq_false_iff.mpr e]
          refine ih (us := us) (by simpa using h) ?_
          rcases List.mem_cons.mp hm with z | z
          · exact (e (by rw [z]; simp)).elim
          · exact z
  have := this h hn
  rw [Option.isSome_iff_ne_none] at this
  simpa using this
theorem bind_plain {x qual : Str} {as : List Arg} {dfl : List Expr} {kd : List (Option Expr)} {body : List Stmt} {scope : Scope} {kV doc pm cdv ct : Value} {an : Option Addr} {us : List Value} (nd : (as.map (·.arg)).Nodup) (hl : us.length = (as.map (·.arg)).length) :
    bindArgs (PySem.W.fnOf x qual ⟨[], as, none, [], kd, none, dfl⟩ body scope .none kV doc pm an cdv ct) ⟨us, []⟩ = pure ((as.map (·.arg)).zip us) := by
  obtain ⟨ps, hp⟩ : ∃ ps, ps = as.map (·.arg) := ⟨_, rfl⟩
  rw [← hp] at nd hl ⊢
  have h1 := zip_all hl
  have h2 := zip_find nd hl
  have h3 : ¬ ps.length < ps.length := Nat.lt_irrefl _
  unfold bindArgs
  simp [PySem.W.fnOf, seqItems?, notAStandIn, ← hp, hl, h1, h2, h3]

/-- a def's text (a statement of the top), its name, parameters, names of its slots, which parameters are lent; what it is in the core language -/
structure Ent where
  st : Stmt
  nm : Str
  ps : List Str
  N : List Str
  ms : List Bool
  df : Def
def plainArgs : Arguments → List Str → Bool
  | ⟨[], as, none, [], _, none, _⟩, ps => decide (as.map (·.arg) = ps)
  | _, _ => false
def scopeOk (N ps : List Str) (sc : Scope) : Bool :=
  (sc.kind == .function) && !sc.isCoroutine && !sc.isGenerator && decide N.Nodup && decide (N.take ps.length = ps) && ps.all (fun x => isLocal sc x || isCell sc x) && sc.names.all (fun y => !(y.2 == .free))
/-- an own exception class: its __init__, the parameters of that, its fields -/
structure XEnt where
  cls : Str
  st : Stmt
  ps : List Str
  fs : List Str
abbrev excsOf (xs : List XEnt) : List (Str × List Str) := xs.map fun e => (e.cls, e.fs)
abbrev progX (globs : List (Str × D)) (tab : List Ent) (xs : List XEnt) (refs : List (Str × Rf)) : Prog := ⟨⟨globs, tab.map fun e => (e.nm, e.ms), excsOf xs, refs⟩, tab.map fun e => (e.nm, e.df)⟩
abbrev progOf (globs : List (Str × D)) (tab : List Ent) : Prog := progX globs tab [] []
def Ent.ok (sg : Sig) (bl : List Str) (e : Ent) : Bool :=
  plainArgs (defArgs e.st) e.ps && scopeOk e.N e.ps (defScope e.st) && decide (e.df.slots = e.N.length) && decide (e.ms.length = e.ps.length) && (chk e.N sg bl e.df.body).B ⟨defScope e.st, fun _ => true⟩ (defBody e.st)
/-- a def that is asked about a caught exception -/
structure RfEnt where
  nm : Str
  st : Stmt
  p : Str
  o : Str
  cs : List Str
  r : Rf
theorem scopeOk_ok {N ps : List Str} {sc : Scope} (h : scopeOk N ps sc = true) : FnScope N ps sc := by
  unfold scopeOk at h
  simp only [Bool.and_eq_true, decide_eq_true_eq, Bool.not_eq_true'] at h
  obtain ⟨⟨⟨⟨⟨⟨h1, h2⟩, h3⟩, h4⟩, h5⟩, h6⟩, h7⟩ := h
  refine ⟨by simpa using h1, h2, h3, h4, h5, fun x hx => ?_, fun y hy z => ?_⟩
  · have := List.all_eq_true.mp h6 x hx
    simp only [Bool.or_eq_true] at this
    exact this.imp isLocal_ok isCell_ok
  · have := List.all_eq_true.mp h7 y hy
    rw [z] at this
    exact Bool.noConfusion (show false = true from this)
theorem look_map {β : Type} {f : Ent → β} : ∀ {tab : List Ent} {e : Ent}, (tab.map (·.nm)).Nodup → e ∈ tab → (tab.map fun e => (e.nm, f e)).lookup e.nm = some (f e)
  | [], _, _, h => nomatch h
  | a :: r, e, nd, h => by
    obtain ⟨n1, n2⟩ := List.nodup_cons.mp nd
    rcases List.mem_cons.mp h with z | z
    · subst z
      simp
    · have ne : (e.nm == a.nm) = false := beq_false_of_ne fun q => n1 (by show a.nm ∈ _; rw [← q]; exact List.mem_map_of_mem z)
      show List.lookup e.nm ((a.nm, f a) :: _) = _
      rw [List.lookup_cons, ne]
      exact look_map n2 z
theorem of_look {β : Type} {f : Ent → β} {x : Str} : ∀ {tab : List Ent}, ((tab.map fun e => (e.nm, f e)).lookup x).isSome = true → ∃ e ∈ tab, e.nm = x
  | [], h => by cases h
  | a :: r, h => by
    by_cases q : (x == a.nm) = true
    · exact ⟨a, List.mem_cons_self .., (by simpa using q : x = a.nm).symm⟩
    · have h' : ((r.map fun e => (e.nm, f e)).lookup x).isSome = true := by
        have := h
        rw [List.map_cons, List.lookup_cons, Bool.eq_false_iff.mpr q] at this
        exact this
      obtain ⟨e, e1, e2⟩ := of_look h'
      exact ⟨e, List.mem_cons_of_mem _ e1, e2⟩
/-- what is known of the own exception classes -/
structure XTop (K : PySem.W.Frag) (mg : Str → Option Value) (xs : List XEnt) : Prop where
  base : xs ≠ [] → ∃ R, BaseX K mg R
  ent : ∀ e ∈ xs, ∃ (Cc fI : Addr) (fd : FuncData) (nm qual : Str), mg e.cls = some (.ref Cc) ∧ OexC K Cc ∧ PySem.W.findIn K (.ref Cc) "__init__" = some (some (.ref fI)) ∧ PySem.W.typeIn K (.ref fI) = some (.type "function") ∧
    FunD K nm qual (defArgs e.st) (defBody e.st) (defScope e.st) [] [] fI fd ∧ XfC K Cc ∧ (∀ f ∈ e.fs, PySem.W.findIn K (.ref Cc) f = some none)
  exm : ∀ e ∈ xs, ∀ (c : Str) (b : Bool), exIs ⟨[], [], excsOf xs, []⟩ e.cls c = some b → ∃ Cc Cd, mg e.cls = some (.ref Cc) ∧ mg c = some (.ref Cd) ∧ PySem.W.exmOne K (.ref Cc) (.ref Cd) = some b
/-- the first def of a class -/
def initOf (s : Stmt) : Stmt := match s with
  | .ClassDef _ _ _ b _ _ _ _ _ _ _ => (b.find? fun t => match t with
    | .FunctionDef .. => true
    | _ => false).getD s
  | _ => s
/-- .. from its text -/
def XEnt.ok (e : XEnt) : Bool := plainArgs (defArgs e.st) e.ps && scopeOk e.ps e.ps (defScope e.st) && isGl (defScope e.st) "RestError" && e.ps.all (fun x => isLocal (defScope e.st) x && !(x == ("__debug__" : Str)) && !(x == ("__classdict__" : Str))) && initB e.ps e.fs (defBody e.st) && decide (e.fs.length ≤ 900)
/-- what is known of the module behind its top -/
structure Top (K : PySem.W.Frag) (mg : Str → Option Value) (globs : List (Str × D)) (tab : List Ent) (bl : List Str) : Prop where
  fn : ∀ e ∈ tab, ∃ (fa : Addr) (fd : FuncData), mg e.nm = some (.ref fa) ∧ FunD K e.nm e.nm (defArgs e.st) (defBody e.st) (defScope e.st) [] [] fa fd
  fr : ∀ x ∈ bl, mg x = none
  glo : ∀ (x : Str) (d : D), globs.lookup x = some d → ∃ v u, mg x = some u ∧ RelV v u ∧ ∀ G, Rp K G v d
theorem args_bind {K : PySem.W.Frag} {nm qual : Str} {pa : Arguments} {bd : List Stmt} {sc : Scope} {fa : Addr} {fd : FuncData} {ps : List Str} (F : FunD K nm qual pa bd sc [] [] fa fd) (h : plainArgs pa ps = true) (nd : ps.Nodup) :
    (∀ (kV doc pm : Value) (an : Option Addr) (cdv ct : Value) (us : List Value), us.length = ps.length → bindArgs (PySem.W.fnOf nm qual pa bd sc .none kV doc pm an cdv ct) ⟨us, []⟩ = pure (ps.zip us)) := by
  unfold plainArgs at h
  split at h
  · have e := of_decide_eq_true h
    subst e
    exact fun kV doc pm an cdv ct us hl => bind_plain nd hl
  · cases h
theorem look_mem' {x : Str} {fs : List Str} : ∀ {xs : List XEnt}, (excsOf xs).lookup x = some fs → ∃ e ∈ xs, e.cls = x ∧ e.fs = fs
  | [], e => by cases e
  | a :: xs, e => by
    have e' : List.lookup x ((a.cls, a.fs) :: excsOf xs) = some fs := e
    rw [List.lookup_cons] at e'
    by_cases q : (x == a.cls) = true
    · rw [q] at e'
      cases e'
      exact ⟨a, List.mem_cons_self .., (by simpa using q : x = a.cls).symm, rfl⟩
    · rw [Bool.eq_false_iff.mpr q] at e'
      obtain ⟨b, h1, h2⟩ := look_mem' (xs := xs) e'
      exact ⟨b, List.mem_cons_of_mem _ h1, h2⟩
theorem XTop.raiser {X : Cx} {xs : List XEnt} {x : Str} {fs : List Str} (XT : XTop X.K X.mg xs) (xok : xs.all XEnt.ok = true) (h : (excsOf xs).lookup x = some fs) : Raiser X x fs := by
  obtain ⟨e, he, rfl, rfl⟩ := look_mem' h
  obtain ⟨Cc, fI, fd, nm, qual, h1, h2, h3, h4, F, _, h6⟩ := XT.ent e he
  obtain ⟨R, B⟩ := XT.base fun z => by rw [z] at he; cases he
  have ok := List.all_eq_true.mp xok e he
  unfold XEnt.ok at ok
  simp only [Bool.and_eq_true, decide_eq_true_eq] at ok
  obtain ⟨⟨⟨⟨⟨o1, o2⟩, o3⟩, o4⟩, o5⟩, o6⟩ := ok
  have S := scopeOk_ok o2
  exact ⟨Cc, fI, fd, e.ps, h1, h2, h3, h4, init_ok F S o3 o4 o5 h2 h6 B, F.bindsN (args_bind F o1 S.nd), o6⟩
theorem XTop.caught {X : Cx} {xs : List XEnt} {sg : Sig} (hs : sg.excs = excsOf xs) {x : Str} {fs : List Str} (XT : XTop X.K X.mg xs) (h : sg.excs.lookup x = some fs) : Caught X sg x fs := by
  rw [hs] at h
  obtain ⟨e, he, rfl, rfl⟩ := look_mem' h
  obtain ⟨Cc, fI, fd, nm, qual, h1, h2, h3, h4, F, h5, h6⟩ := XT.ent e he
  refine ⟨Cc, h1, h5, h6, fun c b hc => ?_⟩
  have hc' : exIs ⟨[], [], excsOf xs, []⟩ e.cls c = some b := by
    unfold exIs at hc ⊢
    rw [hs] at hc
    exact hc
  obtain ⟨Cc', Cd, m1, m2, q⟩ := XT.exm e he c b hc'
  rw [h1] at m1
  cases m1
  exact ⟨Cd, m2, q⟩
theorem table_ok {P : Program} {w : World} {K : PySem.W.Frag} {mg : Str → Option Value} {base : Heap} {globs : List (Str × D)} {tab : List Ent} {bl : List Str} {xs : List XEnt} {refs : List (Str × Rf)} (T : Top K mg globs tab bl) (nd : (tab.map (·.nm)).Nodup) (ok : tab.all (Ent.ok (progX globs tab xs refs).sg bl) = true) (XT : XTop K mg xs) (xok : xs.all XEnt.ok = true) (rfs : ∀ (X : Cx) (g : Gx) f r, refs.lookup f = some r → X.K = K → X.mg = mg → X.prog = P → X.w = w → X.base = base → g.K = K → g.mg = mg → RoomH 3 X.A → Gl X f → RefOk X g (progX globs tab xs refs).sg f r) :
    ∀ (n : Nat) (e : Ent), e ∈ tab → ∀ (fa : Addr) (fd : FuncData), FunD K e.nm e.nm (defArgs e.st) (defBody e.st) (defScope e.st) [] [] fa fd → FnG P w K mg base (n + 3) fa fd e.ps (spF K mg (fun x => globs.lookup x) e.ms (evFn (progX globs tab xs refs) n e.nm)) := by
  intro n
  induction n with
  | zero =>
    intro e he fa fd F
    refine ⟨fun vs H Q E h => ?_, fun A outer s H args us vs Q E _ _ _ _ _ h => ?_⟩ <;>
    · obtain ⟨_, _, _, _, _, h⟩ := h
      exact h.elim
  | succ n ih =>
    intro e he fa fd F
    have ok1 := List.all_eq_true.mp ok e he
    unfold Ent.ok at ok1
    simp only [Bool.and_eq_true, decide_eq_true_eq] at ok1
    obtain ⟨⟨⟨⟨o1, o2⟩, o3⟩, o4⟩, o5⟩ := ok1
    have S := scopeOk_ok o2
    have ev : evFn (progX globs tab xs refs) (n + 1) e.nm = runDef (progX globs tab xs refs).sg (evFn (progX globs tab xs refs) n) e.ms e.df := by
      funext ss
      show (match (tab.map fun e => (e.nm, e.ms)).lookup e.nm, (tab.map fun e => (e.nm, e.df)).lookup e.nm with
        | some ms, some d => runDef _ _ ms d ss
        | _, _ => .bad) = _
      rw [look_map (f := Ent.ms) nd he, look_map (f := Ent.df) nd he]
    rw [ev]
    obtain ⟨oc, od, dV, kV, doc, pm, an, cdv, ct, osl, rfl, lk, hcd, _, _⟩ := F.ex
    have hn : e.ms.length ≤ e.N.length := by
      have := congrArg List.length S.pre
      rw [List.length_take] at this
      omega
    refine fnG_of lk hcd S (fun vs H Q E h => ?_) fun A outer s H vs Q E hg hr h => ?_
    · obtain ⟨_, _, _, _, ar, _⟩ := h
      rw [ar.length.1, o4]
    · have km : Stm (cxOf (L2N.CX P w) P w K mg base e.N e.nm (defScope e.st) fa cdv A outer s H E) (gOf K mg (fun x => globs.lookup x) e.N e.ms vs) (progX globs tab xs refs).sg := ⟨by show (if (defScope e.st).kind.isAnnotationScope then ScopeKind.function else (defScope e.st).kind) = _; rw [S.kind]; rfl, passes_of rfl, rfl, rfl, fun f r h hg => rfs _ _ f r h rfl rfl rfl rfl rfl rfl rfl (L2H.roomH_of (hr.mono (by omega))) hg⟩
      have k : Cok (cxOf (L2N.CX P w) P w K mg base e.N e.nm (defScope e.st) fa cdv A outer s H E) (gOf K mg (fun x => globs.lookup x) e.N e.ms vs) (fun cls dd _ H' => E cls dd H') e.N (progX globs tab xs refs).sg (evFn (progX globs tab xs refs) n) bl (n + 3) ⟨defScope e.st, fun _ => true⟩ := {
        k := ⟨rfl, rfl, rfl, room65 hr, hg, S.nd, L2N.takes_of rfl rfl rfl rfl, T.glo⟩
        N := rfl
        sc := rfl
        fn := fun _ h => h
        fr := T.fr
        gl := rfl
        pn := rfl
        room := hr
        ce := fun f hf => by
          obtain ⟨c, hc, rfl⟩ := of_look (f := Ent.ms) hf
          obtain ⟨fa', fd', m', F'⟩ := T.fn c hc
          have oc := List.all_eq_true.mp ok c hc
          unfold Ent.ok at oc
          simp only [Bool.and_eq_true, decide_eq_true_eq] at oc
          have Sc := scopeOk_ok oc.1.1.1.2
          have pn : c.ps.Nodup := by
            rw [← Sc.pre]
            exact Sc.nd.sublist (List.take_sublist ..)
          exact ⟨c.ms, fa', fd', c.ps, look_map (f := Ent.ms) nd hc, ih c hc fa' fd' F', m', F'.kp, F'.bindsN (args_bind F' oc.1.1.1.1 pn)⟩
        rm2 := hr.mono (by omega)
        rz := fun x fs h => XTop.raiser XT xok h
        xc := fun x fs h => XTop.caught rfl XT h
        rb := fun h => by
          obtain ⟨R, B⟩ := XT.base fun z => by rw [z] at h; cases h
          exact ⟨R, B.mb⟩ }
      exact ⟨_, (sound e.df.body).B k km o5, body_reads o3 hn h⟩

open Classical in
/-- only the script is known, if the module has not got it already -/
noncomputable def scr (K : PySem.W.Frag) (a : Addr) (o : Obj) (xs : List V) : Hp := fun b => if b = a ∧ K.lookup a = none then some (.frz o (.lst xs)) else none
theorem scr_some {K : PySem.W.Frag} {a b : Addr} {o : Obj} {xs : List V} {u : HO} (h : scr K a o xs b = some u) : b = a ∧ K.lookup a = none ∧ u = .frz o (.lst xs) := by
  unfold scr at h
  split at h
  · rename_i c
    exact ⟨c.1, c.2, (Option.some.inj h).symm⟩
  · cases h
theorem scr_none {K : PySem.W.Frag} {a b : Addr} {o : Obj} {xs : List V} (h : ¬ (b = a ∧ K.lookup a = none)) : scr K a o xs b = none := if_neg h
theorem law_run {P : Program} {w : World} {K : PySem.W.Frag} {mg mb : Str → Option Value} {k : Nat} {fa a : Addr} {fd : FuncData} {x : Str} {sp : Sp} {s : Shared} {vs : List Value} {ns : List Int}
    (KX : K.In s.heap) (hns : s.heap.Ns mainGlobals mg) (hb : s.heap.Ns builtinsNs mb) (hbb : ∀ x : Str, x ≠ "__name__" → mb x = bootBuiltins x) (hlim : s.heap.NoLimit) (hg : s.gens = #[])
    (ha : s.heap.get? a = some { cls := .type "list", data := .seq vs.toArray }) (hi : IntsAre vs ns) (hl : ns.length ≤ sizeLine) (hr : Room k callerA)
    (F : ∀ base : Heap, K.In base → base.Ns mainGlobals mg → FnG P w K mg base k fa fd [x] sp) (hbind : ∀ (s : Shared) (u : Value), BindsTo s fd ⟨[u], []⟩ [(x, u)])
    (hsp : ∀ H : Hp, SqP K H a (ns.map V.int) → sp [.ref a] H (fun v _ => v = .bl true) fun _ _ _ => False) :
    codeAny (model P w) callerA (.call (.ref fa) ⟨[.ref a], []⟩) (fun r s' => r = .ok (.ret (.bool true)) ∧ OldK s.heap s'.heap ∧ s'.os = s.os ∧ AllBare s'.gens) s := by
  have rv : Vals (ns.map V.int) vs := vals_ints hi
  have len : vs.length = ns.length := by rw [← rv.length, List.length_map]
  obtain ⟨H, eH⟩ : ∃ H, H = scr K a { cls := .type "list", data := .seq vs.toArray } (ns.map V.int) := ⟨_, rfl⟩
  -- the rest of the heap stands in the base
  have there : ∀ {b : Addr} {o : Obj}, s.heap.get? b = some o → ¬ (b = a ∧ K.lookup a = none) → (hidT s.heap H).get? b = some o := fun e n => hidT_get e (by rw [eH]; exact scr_none n)
  have inK : K.In (hidT s.heap H) := fun b o e => there (KX b o e) fun z => by
    rw [z.1, z.2] at e
    cases e
  have ns' : ∀ {b : Addr} {m : Str → Option Value}, s.heap.Ns b m → (hidT s.heap H).Ns b m := fun {b m} ⟨o, es, ep, e, d, r⟩ => ⟨o, es, ep, there e fun z => by
    rw [z.1, ha] at e
    cases e
    exact Data.noConfusion (show Data.seq vs.toArray _ = Data.dict es ep from d), d, r⟩
  have hok : HOk P w H s.heap := fun b u z => by
    rw [eH] at z
    obtain ⟨rfl, _, rfl⟩ := scr_some z
    exact ⟨ha, by rw [List.length_map]; exact hl, vs, _, rv, ha⟩
  have sq : SqP K H a (ns.map V.int) := by
    cases q : K.lookup a with
    | none =>
      refine .inl (.inr ⟨{ cls := .type "list", data := .seq vs.toArray }, ?_⟩)
      rw [eH]
      exact if_pos ⟨rfl, q⟩
    | some o =>
      have e := KX a o q
      rw [ha] at e
      cases e
      exact .inr ⟨vs, _, q, by rw [len]; exact hl, rv⟩
  have M : Mod K mg (hidT s.heap H) := ⟨inK, ns' hns, ⟨mb, ns' hb, hbb⟩, hlim.elim fun mc z => ⟨mc, ns' z.1, z.2⟩⟩
  have e0 : Env0 P w K mg (hidT s.heap H) callerA [] s H := ⟨rfl, M, fun b o e => of_hidT e, Nat.le_of_eq (hidT_size _ _), trivial, (fun b z => nomatch (show b ∈ ([] : List Addr) from z)), hok, .of_eq hg⟩
  refine codeAny_mono ((F _ inK (ns' hns)).run callerA [] s H ⟨[.ref a], []⟩ [.ref a] [.ref a] _ _ rfl hr e0 (hbind s (.ref a)) (.cons rfl .nil) (hsp H sq)) ?_
  rintro (er | fl) s' h
  · obtain ⟨_, _, _, _, _, _, _, _, _, _, _, _, z⟩ := h
    exact z.elim
  · cases fl with
    | ret u =>
      obtain ⟨v, H', os, bare, un, hok', r', rfl⟩ := h
      cases (show Value.bool true = u from r'.symm ▸ rfl)
      refine ⟨rfl, OldK.of_keep fun b o e => ?_, os, bare⟩
      by_cases z : b = a ∧ K.lookup a = none
      · obtain ⟨rfl, z⟩ := z
        have zH : H b = some (.frz { cls := .type "list", data := .seq vs.toArray } (.lst (ns.map V.int))) := by
          rw [eH]
          exact if_pos ⟨rfl, z⟩
        rw [ha] at e
        cases e
        exact (hok' b _ (un.frzs b _ _ zH)).1
      · exact un.keep b o e (by rw [eH]; exact scr_none z) (fun q => nomatch (show b ∈ ([] : List Addr) from q)) (fun q => nomatch (show b ∈ ([] : List Addr) from q))
    | next => exact h.elim
    | brk => exact h.elim
    | cont => exact h.elim
/-- a law, from what the evaluator tells of it -/
theorem walk_ev {l : PySem.W.OpenLaw} {n k : Nat} {q : Program} {loose : List Str} {XP : (Str → Option Value) → Heap → Prop} {YP : World → Heap → Prop} {d : DefRec} {x : Str}
    (hn : l.most = some n) (hn2 : n ≤ sizeLine) (hdf : d.params.defaults = []) (hr : Room k callerA)
    (F : ∀ (w : World) (mg : Str → Option Value) (fa : Addr) (h : Heap), YP w h → h.Ns mainGlobals mg → mg d.name = some (.ref fa) →
      ∃ (K : PySem.W.Frag) (fd : FuncData) (sp : Sp), K.In h ∧ (∀ (s : Shared) (u : Value), BindsTo s fd ⟨[u], []⟩ [(x, u)]) ∧
        (∀ (H : Hp) (a : Addr) (ns : List Int), ns.length ≤ n → SqP K H a (ns.map V.int) → sp [.ref a] H (fun v _ => v = .bl true) fun _ _ _ => False) ∧
        ∀ base : Heap, K.In base → base.Ns mainGlobals mg → FnG l.prog w K mg base k fa fd [x] sp) :
    PySem.W.WalkO q loose XP YP l.row.toRowW d [] (fun f vs => PySem.call f vs) := by
  refine Att.attach_call hn hdf fun w s₀ s₁ mg mb fa o pm cd doc a vs ns G Y ho hd hcd hmg hobj hints hlen hg => ?_
  obtain ⟨K, fd, sp, KX, hb, hsp, hF⟩ := F w mg fa _ Y G.T.g hmg
  exact law_run KX G.T.g G.T.b G.T.builtins G.T.nolimit hg hobj hints (Nat.le_trans hlen hn2) hr hF hb fun H => hsp H a ns hlen
theorem rp_ints {K : PySem.W.Frag} {G : Hp} : ∀ ns : List Int, RpAll K G (ns.map V.int) (ns.map PyData.int)
  | [] => .nil
  | n :: ns => .cons (.int n) (rp_ints ns)
/-- the law's promise, from its answer -/
theorem law_sp {K : PySem.W.Frag} {mg : Str → Option Value} {gl : Str → Option D} {fn : List Sl → FR} {H : Hp} {a : Addr} {ns : List Int} {fin : List Sl} (h : fn [.imm (.list (ns.map PyData.int))] = .ok (.imm (.bool true)) fin) (hs : SqP K H a (ns.map V.int)) :
    spF K mg gl [false] fn [.ref a] H (fun v _ => v = .bl true) fun _ _ _ => False := by
  have e : hid H (fun _ => False) = H := by
    funext b
    exact if_neg id
  refine ⟨fun _ => False, _, [], fun _ z => z.elim, .imm (d := .list (ns.map PyData.int)) (.lst (by rw [e]; exact hs) (rp_ints ns)) .nil, ?_⟩
  rw [h]
  intro v H' Mu' _ ok _
  have ok' : Rp K (hid H' Mu') v (.bool true) := ok
  cases ok'
  rfl
end Ev
end
section
namespace Ev
open PySem PySem.Spec PyProof.Rows L2
section
open PySem.W PySem.Calls
variable {prog : Program} {w : World} {A : Around} {K : PySem.W.Frag} {e D : Addr} {oe od : Obj}
/-- the class of an own exception that has fields, asked as isinstance asks -/
theorem exc_class {EE : Value → Shared → Prop} {Q : Option Value → Shared → Prop} {s : Shared} (c : ExcC K D) (kin : K.In s.heap) (at1 : PySem.W.InstAt s.heap e oe D (some od)) (q : Q (some (.ref D)) { s with toks := s.toks + 1 }) : wpAny (model prog w) A (getAttr? (.ref e) "__class__") Q EE s := by
  obtain ⟨cd, ecd, _⟩ := any_some c.hd
  have fnd : findObj K D (some od) "__class__" = some (.bind (.builtin "getset_descriptor.__get__") (.builtin "object.__class__")) := findObj_data (Option.isSome_iff_exists.mpr ⟨cd, ecd⟩) c.ha c.hn c.ht
  obtain ⟨hp, gn, dn, tn, on⟩ := s
  have l0 := at1.type (M := model prog w)
  have l3 := looks_find (M := model prog w) kin at1 fnd
  have isE : Looks (model prog w) hp (isInstance (.ref e) (.type "BaseException")) true := l0.andThen (looks_subIn kin c.hs)
  have no : ∀ b : Bool, (b && Value.builtin "BaseException.__getattribute__" == Value.builtin "object.__getattribute__") = false := fun b => by
    rw [show (Value.builtin "BaseException.__getattribute__" == Value.builtin "object.__getattribute__") = false by decide +kernel]
    exact Bool.and_false b
  unfold getAttr? getAttrBy? getAttrBy
  refine wpAny_bind (wpAny_mkText (wpAny_bind (wpAny_attempt (wpAny_holding (wpAny_bind (l0.at (wpAny_bind ((looks_findIn (M := model prog w) kin c.hg).at ?_))))))))
  show wpAny _ _ (if (onTheHeap (Value.ref D) && Value.builtin "BaseException.__getattribute__" == Value.builtin "object.__getattribute__") = true then _ else _) _ _ _
  rw [no, if_neg (by decide)]
  unfold getAttrByItsOwn hookBefore
  refine wpAny_bind ?_
  rw [if_pos (by rfl : onTheHeap (Value.ref D) = true)]
  refine (looks_findIn (M := model prog w) kin c.hk).at (wpAny_bind (wpAny_attempt (wpAny_holding ?_)))
  unfold callGetattribute
  rw [show (false && onTheHeap (Value.builtin "BaseException.__getattribute__")) = false from rfl, if_neg (by decide)]
  unfold boundAndCalled
  rw [PySem.F.excAttr_ValueError.ga.bind (.ref e)]
  refine wpAny_bind (wpAny_pure (?_ : wpAny _ _ (call (.builtin "BaseException.__getattribute__") [.ref e, .str "__class__" tn]) _ _ _))
  refine wpAny_call (codeAny_call_builtin PySem.F.excAttr_ValueError.ga.plain PySem.F.entry_bexc_ga (@check_slot (model prog w) _ _ ⟨hp, gn, dn, tn + 1, on⟩ "BaseException.__getattribute__" "BaseException" "__getattribute__" (.ref e) [.str "__class__" tn] [] _ (by decide +kernel) (by decide +kernel) isE (PySem.F.args_bexc_ga (.ref e) (.str "__class__" tn)) ?_))
  unfold Builtin.«object.__getattribute__»
  refine wpAny_bind (wpAny_of_eq (a := ((Value.ref e : Value), [Value.str "__class__" tn])) (by first | rfl | (simp only [slotArgs]; rfl)) (wpAny_bind (wpAny_pure (wpAny_bind (l0.at (wpAny_bind (l3.at ?_)))))))
  show wpAny _ _ (holding [Value.builtin "object.__class__"] (call (.builtin "getset_descriptor.__get__") [.builtin "object.__class__", .ref e, .ref D]) >>= ret) _ _ _
  refine wpAny_bind (wpAny_holding (wpAny_call (class_get (s := ⟨hp, gn, dn, tn + 1, on⟩) (ox := oe) (od := some od) kin at1 c.hm (wpAny_pure (?_ : wpAny _ _ (handedOut (.ref D)) _ _ _)))))
  rw [handedOut_of (v := .ref D) rfl]
  first
    | exact wpAny_pure (wpAny_pure q)
    | exact wpAny_pure q
    | exact wpAny_pure (wpAny_bind (wpAny_pure (wpAny_pure q)))
theorem exc_kit (c : ExcC K D) : PySem.W.KitX K (.ref e) (.ref D) (fun h => PySem.W.InstAt h e oe D (some od)) where
  ty := fun _ _ _ I => I.type
  it := fun M h kin _ => by
    obtain ⟨cd, ecd, _⟩ := any_some c.hd
    unfold clsIn at ecd
    split at ecd
    · rename_i ho
      intro A' Q' E' s' k q
      unfold isType loadHead
      exact wpAny_bind (wpAny_loadPart (k _ _ (kin _ _ ho)) (wpAny_pure q))
    · cases ecd
  ne := fun h tp dd its n sl kin htp => by
    obtain ⟨cd, ecd, _⟩ := any_some c.hd
    cases hq : (Value.ref D == Value.ref tp) with
    | false => rfl
    | true =>
      obtain rfl : D = tp := Value.ref.inj (beq_iff_eq.mp hq)
      unfold clsIn at ecd
      split at ecd
      · rename_i ho
        cases (kin _ _ ho).symm.trans htp
      · cases ecd
  ca := fun kin I q => exc_class c kin I q
end

/-- isinstance of the exception in hand, one class -/
def rE1 (K : PySem.W.Frag) (D a : Addr) (d : Option Addr) : List V → Hp → VK → Prop := fun xs H Q => ∃ (c : V) (cv : Value) (b : Bool) (dx : Addr) (fs : List (Str × V)), xs = [.ref a, c] ∧ ClsV c cv ∧ d = some dx ∧ H dx = some (.xd fs) ∧ PySem.W.kitOne K (.ref D) cv = some b ∧ Q (.bl b) H
/-- .. and a tuple of classes that was just laid -/
def rEt (K : PySem.W.Frag) (D a : Addr) (d : Option Addr) : List V → Hp → VK → Prop := fun xs H Q => ∃ (tp : Addr) (cs : List V) (us : List Value) (b : Bool) (dx : Addr) (fs : List (Str × V)), xs = [.ref a, .ref tp] ∧ H tp = some (.tup cs) ∧ Paired ClsV cs us ∧ d = some dx ∧ H dx = some (.xd fs) ∧ PySem.W.kitAny K (.ref D) us = some b ∧ Q (.bl b) H
section
variable {X : Cx} {a D : Addr} {oe : Obj} {d : Option Addr} {pn : List (Addr × Obj)}
theorem inst_at {s : Shared} {pins : List (Addr × Obj)} {σ : L2.St} {H : Hp} {dx : Addr} {fs : List (Str × V)} (hz : Zc (.ref D) d oe) (hf : ∃ vs, oe.data = .fields vs) (I : Inv (X.suite a ((a, oe) :: pn)) pins σ H s) (ed : d = some dx) (ea : H dx = some (.xd fs)) : ∃ od, PySem.W.InstAt s.heap a oe D (some od) := by
  have hget := (I.pin (a, oe) (List.mem_append.mpr (.inl List.mem_cons_self))).1
  obtain ⟨vs, hv⟩ := hf
  have hx : ObjOk X.prog X.w H s.heap dx (.xd fs) := I.hok dx _ ea
  obtain ⟨mA, hns, _⟩ := hx
  obtain ⟨od, ho, _⟩ := lookIn_ns hns
  subst ed
  exact ⟨od, hget, hz.1, by unfold PySem.W.notCls; rw [hv], by rw [hz.2]; exact ho⟩
theorem callE1 (c : ExcC X.K D) (hz : Zc (.ref D) d oe) (hf : ∃ vs, oe.data = .fields vs) : CallR (X.suite a ((a, oe) :: pn)) (.builtin "isinstance") (rE1 X.K D a d) := by
  intro pins s σ H xs us Q I r h
  obtain ⟨cc, cv, b, dx, fs, rfl, k, ed, ea, e, q⟩ := h
  obtain ⟨u1, u2, rfl, r1, r2⟩ := vals2 r
  cases (show u1 = Value.ref a from r1)
  have e2 := k.eq r2
  subst e2
  obtain ⟨od, J⟩ := inst_at hz hf I ed ea
  exact PySem.W.kia_one (exc_kit c) I.kIn J e (fun z => nomatch z) fun tk => ⟨.bl b, H, I.tok tk, rfl, q⟩
theorem callEt (c : ExcC X.K D) (hz : Zc (.ref D) d oe) (hf : ∃ vs, oe.data = .fields vs) : CallR (X.suite a ((a, oe) :: pn)) (.builtin "isinstance") (rEt X.K D a d) := by
  intro pins s σ H xs us Q I r h
  obtain ⟨tp, cs, ws, b, dx, fs, rfl, hT, k, ed, ea, e, q⟩ := h
  obtain ⟨u1, u2, rfl, r1, r2⟩ := vals2 r
  cases (show u1 = Value.ref a from r1)
  cases (show u2 = Value.ref tp from r2)
  obtain ⟨od, J⟩ := inst_at hz hf I ed ea
  have hT : ObjOk X.prog X.w H s.heap tp (.tup cs) := I.hok tp _ hT
  obtain ⟨_, its, rv, o, h1, h2, n, h3⟩ := hT
  obtain rfl := ClsV.all k rv
  obtain ⟨oc, od2, dt, sl⟩ := o
  simp only at h2 h3
  subst h2 h3
  exact PySem.W.kia_tup (exc_kit c) I.kIn J h1 e (fun z => nomatch z) fun tk => ⟨.bl b, H, I.tok tk, rfl, q⟩
end
def namesB (sc : Scope) : List Str → List Expr → Bool
  | [], [] => true
  | c :: cs, .Name y _ :: es => decide (y = c) && isGl sc c && namesB sc cs es
  | _, _ => false
def refB (p o : Str) (cs : List Str) (r : Rf) (sc : Scope) (body : List Stmt) : Bool := match r.fs, body with
  | [f1, f2], [.Assign [.Name o1 _] (.Call (.Name i1 _) [.Name p1 _, .Tuple es _ _] [] _) _, .If (.BoolOp .And [.Call (.Name i2 _) [.Name p2 _, .Name c _] [] _, .Call (.Name i3 _) [.Name p3 _, .Name v _] [] _, .UnaryOp .Not (.Name o2 _) _] _) [.Return (some (.Tuple [.Attribute (.Name p4 _) g1 _, .Attribute (.Name p5 _) g2 _] _ _)) _] [] _, .Return (some (.Constant (.str t) _ _)) _] =>
    decide (o = o1 ∧ i1 = "isinstance" ∧ p = p1 ∧ i2 = "isinstance" ∧ p = p2 ∧ c = r.cls ∧ i3 = "isinstance" ∧ p = p3 ∧ v = "ValueError" ∧ o = o2 ∧ p = p4 ∧ f1 = g1 ∧ p = p5 ∧ f2 = g2 ∧ t = r.oth) && namesB sc cs es && isGl sc "isinstance" && isGl sc "ValueError" && isGl sc r.cls && isLocal sc p && isLocal sc o &&
      decide (cs.length ≤ 100) && !(p == ("__debug__" : Str)) && !(p == ("__classdict__" : Str)) && !(o == ("__debug__" : Str)) && !(o == ("__classdict__" : Str)) && decide (p ≠ o)
  | _, _ => false
/-- what is known of the classes that such a def names -/
structure RefX (K : PySem.W.Frag) (mg : Str → Option Value) (sg : Sig) (ad : Str → Addr) (cs : List Str) (r : Rf) : Prop where
  isi : mg "isinstance" = none
  ve : mg "ValueError" = none
  at' : ∀ n ∈ r.cls :: cs, mg n = some (.ref (ad n))
  ex : ∀ y, (sg.excs.lookup y).isSome = true → mg y = some (.ref (ad y)) ∧ ExcC K (ad y) ∧ (y = r.cls → XfC K (ad y) ∧ ∀ f ∈ r.fs, PySem.W.findIn K (.ref (ad y)) f = some none) ∧
    ∃ b1 b2 b3, PySem.W.kitAny K (.ref (ad y)) (cs.map fun n => .ref (ad n)) = some b1 ∧ PySem.W.kitOne K (.ref (ad y)) (.ref (ad r.cls)) = some b2 ∧ PySem.W.kitOne K (.ref (ad y)) (.type "ValueError") = some b3 ∧ (b2 && (b3 && !b1)) = (y == r.cls)
theorem boot_ve : bootBuiltins "ValueError" = some (.type "ValueError") := by decide +kernel
theorem boot_isE : bootBuiltins "isinstance" = some (.builtin "isinstance") := by decide +kernel
theorem glb {X : Cx} {x : Str} (h : isGl X.env.scope x = true) : Gl X x ∧ (x == ("__debug__" : Str)) = false := by
  unfold isGl at h
  split at h
  · rename_i hl
    exact ⟨hl, by simpa using h⟩
  · cases h
theorem pa_names {X : Cx} {ad : Str → Addr} : ∀ {cs : List Str} {es : List Expr}, namesB X.env.scope cs es = true → (∀ n ∈ cs, X.mg n = some (.ref (ad n))) → PA X es (fun _ H Q => Q (cs.map fun n => .ref (ad n)) H)
  | [], [], _, _ => pa_nil
  | [], _ :: _, h, _ => Bool.noConfusion (show false = true from h)
  | c :: cs, [], h, _ => Bool.noConfusion (show false = true from h)
  | c :: cs, e :: es, h, hm => by
    cases e with
    | Name y py =>
      have h' : (decide (y = c) && isGl X.env.scope c && namesB X.env.scope cs es) = true := h
      simp only [Bool.and_eq_true, decide_eq_true_eq] at h'
      obtain ⟨⟨rfl, h2⟩, h3⟩ := h'
      exact pa_cons (pe_glob (v := .ref (ad y)) (glb h2).1 (hm y (List.mem_cons_self ..)) rfl (glb h2).2) (pa_names h3 fun n hn => hm n (List.mem_cons_of_mem _ hn)) rfl
    | _ => exact Bool.noConfusion (show false = true from h)
theorem paired_cls {ad : Str → Addr} : ∀ {cs : List Str}, Paired ClsV (cs.map fun n => V.ref (ad n)) (cs.map fun n => Value.ref (ad n))
  | [] => .nil
  | c :: cs => .cons (.own (ad c)) paired_cls
theorem ref_body {X : Cx} {sg : Sig} {a : Addr} {oe : Obj} {ad : Str → Addr} {p o y : Str} {cs : List Str} {r : Rf} {body : List Stmt} {d : Option Addr} (hN : X.N = [p, o]) (hB : refB p o cs r X.env.scope body = true) (R : RefX X.K X.mg sg ad cs r) (hy : (sg.excs.lookup y).isSome = true)
    (hz : Zc (.ref (ad y)) d oe) (hf : ∃ vs, oe.data = .fields vs) : ∃ t, PSs (X.suite a [(a, oe)]) body t ∧ ∀ (H : Hp) (D : Ends) (dx : Addr) (fs : List (Str × V)), d = some dx → H dx = some (.xd fs) →
      (y = r.cls → ∃ vs, fsV fs r.fs = some vs ∧ ∀ T cs p, H T = none → upd H T (.tup cs) p = none → D.rt (.ref p) (upd (upd H T (.tup cs)) p (.tup vs))) → (y ≠ r.cls → ∀ T cs, H T = none → D.rt (.str r.oth) (upd H T (.tup cs))) → t D [some (.ref a), none] H := by
  obtain ⟨my, ec, xf, b1, b2, b3, k1, k2, k3, kk⟩ := R.ex y hy
  unfold refB at hB
  split at hB
  · rename_i f1 f2 o1 po1 i1 pi1 p1 pp1 es k0 pt0 pc0 pa0 i2 pi2 p2 pp2 c pc2 pq2 i3 pi3 p3 pp3 v pv3 pq3 o2 po2 pn2 pb p4 pp4 g1 pg1 p5 pp5 g2 pg2 k5 pt5 pr5 pi t kt ptt pr er
    simp only [Bool.and_eq_true, decide_eq_true_eq, Bool.not_eq_true'] at hB
    obtain ⟨⟨⟨⟨⟨⟨⟨⟨⟨⟨⟨⟨⟨rfl, rfl, rfl, rfl, rfl, rfl, rfl, rfl, rfl, rfl, rfl, rfl, rfl, rfl, rfl⟩, nb⟩, gi⟩, gv⟩, gc⟩, lp⟩, lo⟩, lc⟩, d1⟩, d2⟩, d3⟩, d4⟩, npo⟩ := hB
    have hN' : (X.suite a [(a, oe)]).N = [_, _] := hN
    have vp : ∀ q : Pos, PE (X.suite a [(a, oe)]) (.Name p q) (tVar 0) := fun q => pe_var (by rw [hN']; rfl) (.inl (isLocal_ok lp)) d1 d2
    have vo : ∀ q : Pos, PE (X.suite a [(a, oe)]) (.Name o q) (tVar 1) := fun q => pe_var (by rw [hN']; rfl) (.inl (isLocal_ok lo)) d3 d4
    have nd : (X.suite a [(a, oe)]).N.Nodup := by
      rw [hN']
      exact List.nodup_cons.mpr ⟨by simpa using npo, List.nodup_cons.mpr ⟨by simp, .nil⟩⟩
    have isT : ∀ (q1 q2 q3 q4 : Pos) k, PE (X.suite a [(a, oe)]) (.Call (.Name "isinstance" q1) [.Name p q2, .Tuple es k q3] [] q4) (tCB (rEt X.K (ad y) a d) (tCons (tVar 0) (tCons (tTup fun _ H Q => Q (cs.map fun n => .ref (ad n)) H) tNil))) := fun q1 q2 q3 q4 k =>
      pe_callB (callEt ec hz hf) (glb (X := X.suite a [(a, oe)]) gi).1 R.isi boot_isE (pa_cons (vp q2) (pa_cons (pe_tup (pa_names (X := X.suite a [(a, oe)]) nb fun n hn => R.at' n (List.mem_cons_of_mem _ hn))) pa_nil rfl) rfl) (by decide) (by decide) rfl rfl
    have isC : ∀ (q1 q2 q3 q4 : Pos), PE (X.suite a [(a, oe)]) (.Call (.Name "isinstance" q1) [.Name p q2, .Name r.cls q3] [] q4) (tCB (rE1 X.K (ad y) a d) (tCons (tVar 0) (tCons (tC (.ref (ad r.cls))) tNil))) := fun q1 q2 q3 q4 =>
      pe_callB (callE1 ec hz hf) (glb (X := X.suite a [(a, oe)]) gi).1 R.isi boot_isE (pa_cons (vp q2) (pa_cons (pe_glob (v := .ref (ad r.cls)) (glb (X := X.suite a [(a, oe)]) gc).1 (R.at' _ (List.mem_cons_self ..)) rfl (glb (X := X.suite a [(a, oe)]) gc).2) pa_nil rfl) rfl) (by decide) (by decide) rfl rfl
    have isV : ∀ (q1 q2 q3 q4 : Pos), PE (X.suite a [(a, oe)]) (.Call (.Name "isinstance" q1) [.Name p q2, .Name "ValueError" q3] [] q4) (tCB (rE1 X.K (ad y) a d) (tCons (tVar 0) (tCons (tC (.ty "ValueError")) tNil))) := fun q1 q2 q3 q4 =>
      pe_callB (callE1 ec hz hf) (glb (X := X.suite a [(a, oe)]) gi).1 R.isi boot_isE (pa_cons (vp q2) (pa_cons (pe_bltn (v := .ty "ValueError") (glb (X := X.suite a [(a, oe)]) gv).1 R.ve boot_ve rfl (by decide) (by decide)) pa_nil rfl) rfl) (by decide) (by decide) rfl rfl
    by_cases e : y = r.cls
    · obtain ⟨T, no⟩ := xf e
      have at1 : ∀ (n : Str) (q q2 : Pos), n ∈ r.fs → PE (X.suite a [(a, oe)]) (.Attribute (.Name p q) n q2) (tXf a (.ref (ad y)) d (ad y) n (tVar 0)) := fun n q q2 hn => pe_xf T (no n hn) hz hf (vp q)
      refine ⟨_, pss_cons (ps_set (i := 1) nd (by rw [hN']; rfl) (.inl (isLocal_ok lo)) (isT _ _ _ _ _) (swaps_plainE rfl _ _ _) (.inr (isLocal_ok lo)))
        (pss_cons (ps_if (pw_and (pt_val (isC _ _ _ _)) (pw_and (pt_val (isV _ _ _ _)) (pw_and1 (pt_not (pt_val (vo _)))))).pt (pss_one (ps_ret (pe_tup (pa_cons (at1 f1 _ _ (by rw [er]; simp)) (pa_cons (at1 f2 _ _ (by rw [er]; simp)) pa_nil rfl) rfl)))) pss_nil) (pss_one (ps_ret pe_str))), ?_⟩
      intro H Dn dx fs ed ea hyes _
      obtain ⟨vs, lv, hq⟩ := hyes e
      have kk' : (b2 && (b3 && !b1)) = true := by rw [kk]; simpa using e
      simp only [Bool.and_eq_true, Bool.not_eq_true'] at kk'
      obtain ⟨rfl, rfl, rfl⟩ := kk'
      simp only [tSeq, tAsg, tCB, tCons, tVar, tTup, tNil, tC, gName, tIfS, tAnd, tB, tNot, tRet, rEt, rE1, tXf, tNext]
      refine ⟨.ref a, rfl, by simp; exact Nat.le_trans lc (by rw [sizeLine_eq]; decide), fun T nT => ?_⟩
      have nd : dx ≠ T := fun z => by rw [z, nT] at ea; cases ea
      have ea' : ∀ cs, upd H T (.tup cs) dx = some (.xd fs) := fun cs => by rw [upd_ne nd]; exact ea
      refine ⟨T, _, _, _, dx, fs, rfl, upd_same, paired_cls, ed, ea' _, k1, ?_⟩
      refine ⟨.ref a, rfl, _, _, _, dx, fs, rfl, .own _, ed, ea' _, k2, true, rfl, ?_⟩
      rw [if_pos rfl]
      refine ⟨.ref a, rfl, _, _, _, dx, fs, rfl, .ty _, ed, ea' _, k3, true, rfl, ?_⟩
      rw [if_pos rfl]
      refine ⟨_, rfl, false, rfl, ?_⟩
      rw [if_pos (by decide)]
      rw [er] at lv
      simp only [fsV] at lv
      split at lv
      · rename_i v1 vs1 e1 e2
        cases lv
        split at e2
        · rename_i v2 vs2 e3 e4
          cases e4
          cases e2
          exact ⟨_, rfl, rfl, trivial, dx, fs, v1, ed, ea' _, e1, _, rfl, rfl, trivial, dx, fs, v2, ed, ea' _, e3, by rw [sizeLine_eq]; show 2 ≤ 16777216; decide, fun p np => hq T _ p nT np⟩
        · cases e2
      · cases lv
    · refine ⟨_, pss_cons (ps_set (i := 1) nd (by rw [hN']; rfl) (.inl (isLocal_ok lo)) (isT _ _ _ _ _) (swaps_plainE rfl _ _ _) (.inr (isLocal_ok lo)))
        (pss_cons (ps_if (pw_and (pt_val (isC _ _ _ _)) (pw_and (pt_val (isV _ _ _ _)) (pw_and1 (pt_not (pt_val (vo _)))))).pt (pss_never) pss_nil) (pss_one (ps_ret pe_str))), ?_⟩
      intro H Dn dx fs ed ea _ hno
      have kk' : (b2 && (b3 && !b1)) = false := by rw [kk]; simpa using e
      simp only [tSeq, tAsg, tCB, tCons, tVar, tTup, tNil, tC, gName, tIfS, tAnd, tB, tNot, tRet, rEt, rE1, tXf, tNext, tNever]
      refine ⟨.ref a, rfl, by simp; exact Nat.le_trans lc (by rw [sizeLine_eq]; decide), fun T nT => ?_⟩
      have nd : dx ≠ T := fun z => by rw [z, nT] at ea; cases ea
      have ea' : ∀ cs, upd H T (.tup cs) dx = some (.xd fs) := fun cs => by rw [upd_ne nd]; exact ea
      refine ⟨T, _, _, _, dx, fs, rfl, upd_same, paired_cls, ed, ea' _, k1, ?_⟩
      refine ⟨.ref a, rfl, _, _, _, dx, fs, rfl, .own _, ed, ea' _, k2, b2, rfl, ?_⟩
      cases b2 with
      | false => exact hno e T _ nT
      | true =>
        rw [if_pos rfl]
        refine ⟨.ref a, rfl, _, _, _, dx, fs, rfl, .ty _, ed, ea' _, k3, b3, rfl, ?_⟩
        cases b3 with
        | false => exact hno e T _ nT
        | true =>
          rw [if_pos rfl]
          refine ⟨_, rfl, b1, rfl, ?_⟩
          cases b1 with
          | false => cases kk'
          | true => exact hno e T _ nT
  · cases hB

theorem mark_same {A : Around} {v : Value} (h : A.handled = some v) : A.mark (some v) = A := by
  obtain ⟨hh, dp, fr, gd, un⟩ := A
  have h : hh = some v := h
  subst h
  rfl
section
variable {X : Cx} {g : Gx} {sg : Sig} {f nm qual : Str} {pa : Arguments} {body : List Stmt} {sc : Scope} {fa : Addr} {fd : FuncData} {p o : Str} {cs : List Str} {r : Rf} {ad : Str → Addr}
theorem ref_run {a : Addr} {oe : Obj} {y : Str} {d : Option Addr} {pn pins : List (Addr × Obj)} {σ : L2.St} {H : Hp} {s : Shared} {Q : VK} {dx : Addr} {fs : List (Str × V)} (F : FunD X.K nm qual pa body sc [] [] fa fd) (S : FnScope [p, o] [p] sc) (hb : Binds X.K fd [p] []) (hB : refB p o cs r sc body = true) (R : RefX X.K X.mg sg ad cs r) (rm : L2H.RoomH 3 X.A)
    (hy : (sg.excs.lookup y).isSome = true) (hz : L2N.Zn (.ref (ad y)) d oe) (hf : ∃ vs, oe.data = .fields vs) (I : Inv (X.suite a ((a, oe) :: pn)) pins σ H s) (ed : d = some dx) (ea : H dx = some (.xd fs))
    (h1 : y = r.cls → ∃ vs, fsV fs r.fs = some vs ∧ ∀ T cs p, H T = none → upd H T (.tup cs) p = none → Q (.ref p) (upd (upd H T (.tup cs)) p (.tup vs))) (h2 : y ≠ r.cls → ∀ T cs, H T = none → Q (.str r.oth) (upd H T (.tup cs))) :
    wpAny (model X.prog X.w) (X.suite a ((a, oe) :: pn)).A (call (.ref fa) [.ref a]) (EP (X.suite a ((a, oe) :: pn)) pins σ Q) (X.suite a ((a, oe) :: pn)).xe s := by
  obtain ⟨oc, od, dV, kV, doc, pm, an, cdv, ct, osl, rfl, lk, hcd, _, _⟩ := F.ex
  have pin := I.pin (a, oe) (List.mem_append.mpr (.inl List.mem_cons_self))
  have hpin : L2H.PinOk (X.suite a ((a, oe) :: pn)).stack H s (a, oe) := ⟨pin.1, pin.2.1, fun hm => (List.mem_cons.mp (I.stkSub a hm)).elim pin.2.2.1 pin.2.2.2.1, pin.2.2.2.2⟩
  have e0 := I.env0
  have kin := I.kIn
  have lim : s.heap.NoLimit := e0.mod.nolimit.keeps fun b o e => (e0.bs b o e).1
  have bd := hb s [.ref a] kin rfl
  have vals : Vals [V.ref a] [Value.ref a] := .cons rfl .nil
  refine wpAny_call ?_
  refine codeAny_call_function (show (X.A.mark (some (.ref a))).depth < _ from rm.depth) (kin _ _ lk) rfl S.co S.gen rfl (PySem.W.codeRec_of kin hcd) (bd _ _ _ _ ?_)
  have kinds : ∀ z ∈ [p].zip ([Value.ref a] ++ []), sc.names.lookup z.1 = some .local ∨ (sc.names.lookup z.1 = some .cell ∧ ((cellsFrom (s.heap.objs.size + 1) sc.names []).lookup z.1).isSome = true) := fun ⟨n, v⟩ hz => by
    rcases S.par n (List.of_mem_zip hz).1 with q | q
    · exact .inl q
    · exact .inr ⟨q, PySem.W.cellsFrom_some _ _ _ (.inl q)⟩
  refine wpAny_newFunctionEnv_cells S.kind kinds fun env he s1 x => ?_
  subst he
  refine ⟨lim.keeps x.toInCall.keep, codeAny_func ?_⟩
  obtain ⟨Xh, eX⟩ : ∃ Xh, Xh = L2H.cxH CX0 X.prog X.w X.K X.mg X.base [p, o] qual sc fa cdv (X.suite a ((a, oe) :: pn)).A (X.suite a ((a, oe) :: pn)).stack s H (fun _ _ _ => False) (a, oe) := ⟨_, rfl⟩
  have I1 : Inv Xh [] (L2.start [p, o] [V.ref a]) H s1 := by
    rw [eX]
    exact L2H.inv_startH S hpin e0 rfl vals x
  have I2 : Inv (Xh.suite a [(a, oe)]) [] [some (.ref a), none] H s1 := ⟨I1.ok.suite _ _, I1.os, I1.bare, I1.base, I1.loc, I1.cell, I1.free, I1.freeC, fun q hq => I1.pin q (by rw [eX]; exact hq), I1.hok, I1.len⟩
  have eA : (Xh.suite a [(a, oe)]).A = Xh.A := mark_same (by rw [eX]; rfl)
  obtain ⟨t, ht, hq⟩ := ref_body (X := Xh) (sg := sg) (oe := oe) (d := d) (body := body) (cs := cs) (r := r) (by rw [eX]; rfl) (by rw [eX]; exact hB) (by rw [eX]; exact R) hy hz.zc hf
  have run := ht.run [] s1 _ H { nx := fun _ _ => False, rt := Q } I2 (hq H _ dx fs ed ea h1 h2)
  rw [eA] at run
  have fin : ∀ {σ' : L2.St} {H' : Hp} {v : V} {u : Value} {s' : Shared}, Inv (Xh.suite a [(a, oe)]) [] σ' H' s' → RelV v u → Q v H' → EP (X.suite a ((a, oe) :: pn)) pins σ Q u s' := fun {σ' H' v u s'} J rv q =>
    I.after ⟨v, H', by rw [eX] at J; exact J.os, J.bare, by rw [eX] at J; exact J.base, by rw [eX] at J; exact J.hok, rv, q⟩
  subst eX
  refine wpAny_mono run (fun fl s' hs => ?_) fun e s' hs => hs.elim
  cases fl with
  | ret u =>
    obtain ⟨v, σ', H', J, rv, q⟩ := hs
    exact fin J rv q
  | next =>
    obtain ⟨σ', H', J, q⟩ := hs
    exact q.elim
  | brk =>
    obtain ⟨_, _, _, q⟩ := hs
    exact q.elim
  | cont =>
    obtain ⟨_, _, _, q⟩ := hs
    exact q.elim
theorem ref_ok (F : FunD X.K nm qual pa body sc [] [] fa fd) (S : FnScope [p, o] [p] sc) (hb : Binds X.K fd [p] []) (hB : refB p o cs r sc body = true) (R : RefX X.K X.mg sg ad cs r) (rm : L2H.RoomH 3 X.A) (hm : X.mg f = some (.ref fa)) (eg : g.mg = X.mg) (hg : Gl X f) (hdb : (f == ("__debug__" : Str)) = false) : RefOk X g sg f r := by
  refine ⟨fun {a oe cls d pn e te p1 q1} hz hf ns he => ⟨fun pins s σ H Q I h => ?_⟩⟩
  refine wpAny_Call_Name_kw (ld_glob I hg hm ?_ hdb)
  have args : PA (X.suite a ((a, oe) :: pn)) [e] (tCons te tNil) := pa_cons he pa_nil (star1 ns [] _)
  refine PySem.W.callWith_K (h₀ := X.base) I.ok.mod.kin F.kp (thn (args.run q1 pins s σ H (fun vs H1 => match vs with
    | [x] => x = V.ref a ∧ ∃ (C dx : Addr) (fs : List (Str × V)) (y : Str), cls = .ref C ∧ d = some dx ∧ H1 dx = some (.xd fs) ∧ g.mg y = some (.ref C) ∧ (sg.excs.lookup y).isSome = true ∧
    (y = r.cls → ∃ vs, fsV fs r.fs = some vs ∧ ∀ T cs p, H1 T = none → upd H1 T (.tup cs) p = none → Q (.ref p) (upd (upd H1 T (.tup cs)) p (.tup vs))) ∧ (y ≠ r.cls → ∀ T cs, H1 T = none → Q (.str r.oth) (upd H1 T (.tup cs)))
    | _ => False) I h) fun us s1 ⟨vs, H1, I1, rv, hx⟩ => ⟨I1.kIn, ?_⟩) (star1 ns [] _) rfl
  dsimp only at hx
  split at hx
  · obtain ⟨e1, C, dx, fs, y, e2, e3, e4, e5, e6, e7, e8⟩ := hx
    subst e1 e2
    have : us = [Value.ref a] := by
      cases rv with
      | cons r1 r2 =>
        cases r2
        cases (show _ = Value.ref a from r1)
        rfl
    subst this
    have my := (R.ex y e6).1
    rw [eg, my] at e5
    cases e5
    exact ref_run (X := X) F S hb hB R rm e6 hz hf I1 e3 e4 e7 e8
  · exact hx.elim
end
end Ev
end
section
namespace Ev
open PySem PySem.Spec PyProof.Rows L2

def Ent.defD (e : Ent) : He.DefD := ⟨(e.nm, none), e.nm, e.nm, defArgs e.st, defBody e.st, defScope e.st, [], []⟩
def glFa : Str × D → He.Fa
  | (x, .int i) => .int x i
  | (x, .str s) => .str x s
  | (x, _) => .glo x
def glOk : D → Bool
  | .int _ => true
  | .str _ => true
  | _ => false
/-- the facts about the defs that are asked about exceptions -/
def rfFa (rf : List RfEnt) : List He.Fa := rf.flatMap fun e => .glo e.nm :: .free "isinstance" :: .free "ValueError" :: (e.r.cls :: e.cs).map .glo
def faOf (globs : List (Str × D)) (tab : List Ent) (bl : List Str) (xs : List XEnt) (rf : List RfEnt) : List He.Fa := tab.map (fun e => .glo e.nm) ++ (bl.map .free ++ (globs.map glFa ++ ((if xs.isEmpty then [] else .glo "RestError" :: xs.map fun e => .glo e.cls) ++ rfFa rf)))
def RfEnt.defD (e : RfEnt) : He.DefD := ⟨(e.nm, none), e.nm, e.nm, defArgs e.st, defBody e.st, defScope e.st, [], []⟩
def XEnt.defD (e : XEnt) : He.DefD := ⟨(e.cls, some "__init__"), "__init__", e.cls ++ (".__init__" : Str), defArgs e.st, defBody e.st, defScope e.st, [], []⟩
def fnOf (tab : List Ent) (xs : List XEnt) (rf : List RfEnt) : List He.DefD := tab.map Ent.defD ++ (xs.map XEnt.defD ++ rf.map RfEnt.defD)
def oexB (K : PySem.W.Frag) (C : Addr) : Bool := (match K.lookup C with
  | some ⟨.type "type", _, .cls cd, sl⟩ => (match cd.mro, sl.toList with
    | .ref C2 :: bm, [_, _, _, _, some (.builtin nw), _] => C2 == C && nw == "ValueError.__new__" && !cd.hasDel && cd.hasDict && PySem.HandSPX.refsVE bm
    | _, _ => false)
  | _ => false) && (decide (PySem.W.findIn K (.ref C) "__setattr__" = some (some (.builtin "object.__setattr__"))) && (decide (PySem.W.subIn K (.ref C) (.type "BaseException") = some true) && (decide (PySem.W.typeIn K (.ref C) = some (.type "type")) && PySem.W.keepIn K (.ref C))))
theorem oexB_ok {K : PySem.W.Frag} {C : Addr} (h : oexB K C = true) : OexC K C := by
  unfold oexB at h
  obtain ⟨h1, h⟩ := Bool.and_eq_true_iff.mp h
  obtain ⟨h2, h⟩ := Bool.and_eq_true_iff.mp h
  obtain ⟨h3, h⟩ := Bool.and_eq_true_iff.mp h
  obtain ⟨h4, h5⟩ := Bool.and_eq_true_iff.mp h
  refine ⟨?_, of_decide_eq_true h2, of_decide_eq_true h3, of_decide_eq_true h4, h5⟩
  split at h1
  · rename_i dd cd sl hl
    split at h1
    · rename_i C2 bm s0 s1 s2 s3 nw s5 em es
      simp only [Bool.and_eq_true, beq_iff_eq, Bool.not_eq_true'] at h1
      obtain ⟨⟨⟨⟨rfl, rfl⟩, hdel⟩, hdi⟩, hv⟩ := h1
      obtain ⟨nm, bs, mro, ns, qn, hd, sn, sub, ab, col, del⟩ := cd
      dsimp only at em hdel hdi
      subst em hdel hdi
      obtain ⟨l⟩ := sl
      dsimp only at es
      subst es
      exact ⟨nm, qn, ns, bs, bm, sn, sub, ab, col, dd, s0, s1, s2, s3, s5, hl, hv⟩
    · cases h1
  · cases h1
def baseB (K : PySem.W.Frag) (R : Addr) : Bool := decide (PySem.W.specialIn K (.ref R) "__getattribute__" = some (some (.builtin "type.__getattribute__"))) && (decide (PySem.W.typeIn K (.ref R) = some (.type "type")) && (PySem.W.readsIn K R (.type "type") && (match PySem.W.findCls K (.ref R) (.type "type") "__init__" with
  | some (.val (.builtin b)) => b == "ValueError.__init__"
  | _ => false)))
def entB (K : PySem.W.Frag) (e : XEnt) : Bool := oexB K (He.ga K e.cls) && (decide (PySem.W.findIn K (.ref (He.ga K e.cls)) "__init__" = some (some (.ref (He.ma K (He.ga K e.cls) "__init__")))) && (decide (PySem.W.typeIn K (.ref (He.ma K (He.ga K e.cls) "__init__")) = some (.type "function")) &&
  (xfB K (He.ga K e.cls) && e.fs.all fun f => decide (PySem.W.findIn K (.ref (He.ga K e.cls)) f = some none))))
def exB (xs : List XEnt) (K : PySem.W.Frag) : Bool := xs.isEmpty || (baseB K (He.ga K "RestError") && (xs.all (entB K) && xs.all fun e => ((("RestError" : Str) :: xs.map (·.cls)).all fun c => decide (PySem.W.exmOne K (.ref (He.ga K e.cls)) (.ref (He.ga K c)) = some (c == ("RestError" : Str) || c == e.cls)))))
def excB (K : PySem.W.Frag) (D : Addr) : Bool := decide (PySem.W.findIn K (.ref D) "__getattribute__" = some (some (.builtin "BaseException.__getattribute__"))) && (decide (PySem.W.findIn K (.ref D) "__getattr__" = some none) && (decide (PySem.W.subIn K (.ref D) (.type "BaseException") = some true) &&
  (PySem.W.hasDictIn K D && (decide (PySem.W.findIn K (.ref D) "__class__" = some (some (.builtin "object.__class__"))) && (decide (PySem.W.specialIn K (.builtin "object.__class__") "__get__" = some (some (.builtin "getset_descriptor.__get__"))) && (decide (PySem.W.takesIn K (.builtin "object.__class__") = some true) && decide (PySem.W.mroIn K D (.type "object") = some true)))))))
theorem excB_ok {K : PySem.W.Frag} {D : Addr} (h : excB K D = true) : ExcC K D := by
  unfold excB at h
  simp only [Bool.and_eq_true, decide_eq_true_eq] at h
  obtain ⟨h1, h2, h3, h4, h5, h6, h7, h8⟩ := h
  exact ⟨h1, h2, h3, h4, h5, h6, h7, h8⟩
/-- what such a def asks is answered -/
def rfB1 (K : PySem.W.Frag) (xs : List XEnt) (e : RfEnt) : Bool := xs.all fun y => excB K (He.ga K y.cls) && ((match PySem.W.kitAny K (.ref (He.ga K y.cls)) (e.cs.map fun n => .ref (He.ga K n)), PySem.W.kitOne K (.ref (He.ga K y.cls)) (.ref (He.ga K e.r.cls)), PySem.W.kitOne K (.ref (He.ga K y.cls)) (.type "ValueError") with
  | some b1, some b2, some b3 => (b2 && (b3 && !b1)) == (y.cls == e.r.cls)
  | _, _, _ => false) && (!(y.cls == e.r.cls) || e.r.fs.all fun f => y.fs.contains f))
def rfB (rf : List RfEnt) (xs : List XEnt) (K : PySem.W.Frag) : Bool := rf.all (rfB1 K xs)
/-- .. from its text -/
def RfEnt.ok (e : RfEnt) : Bool := plainArgs (defArgs e.st) [e.p] && scopeOk [e.p, e.o] [e.p] (defScope e.st) && refB e.p e.o e.cs e.r (defScope e.st) (defBody e.st) && !(e.nm == ("__debug__" : Str))
def asY (g : Addr → Option Obj) (n : Nat) : List Addr := cStatics :: He.asD g n
def obsY (n : Nat) (fa : List He.Fa) (fn : List He.DefD) (ex : PySem.W.Frag → Bool) (g : Addr → Option Obj) : He.AlX := (He.obsT fa fn [] (He.frT g (asY g n)), ex (He.frT g (asY g n)))
def hookY (n : Nat) (fa : List He.Fa) (fn : List He.DefD) (ex : PySem.W.Frag → Bool) : PySem.W.Hook where
  α := He.AlX
  obs := fun s => obsY n fa fn ex s.heap.get?
  val := fun w => He.valX fn [] w
  says := fun w h => ∃ K : PySem.W.Frag, K.In h ∧ He.SaysT fa fn [] w K ∧ ex K = true
  of := fun _ _ e => ⟨_, He.frT_in, congrArg (fun z : He.AlX => z.1) e, congrArg (fun z : He.AlX => z.2) e⟩
  keeps := fun _ _ _ ⟨K, hK, c⟩ k => ⟨K, PySem.W.Frag.In.keeps hK k, c⟩
theorem obsY_eq {n : Nat} {fa : List He.Fa} {fn : List He.DefD} {ex : PySem.W.Frag → Bool} {g : Addr → Option Obj} {s : Shared} (h : ∀ a, g a = s.heap.get? a) : obsY n fa fn ex g = (hookY n fa fn ex).obs s := by
  obtain rfl : g = s.heap.get? := funext h
  rfl
section
variable {K : PySem.W.Frag} {h : Heap} {mg : Str → Option Value} {globs : List (Str × D)} {tab : List Ent} {bl : List Str} {xs : List XEnt} {rf : List RfEnt}
theorem look_mem {x : Str} {d : D} : ∀ {l : List (Str × D)}, l.lookup x = some d → (x, d) ∈ l
  | [], e => by cases e
  | (y, c) :: l, e => by
    rw [List.lookup_cons] at e
    by_cases q : (x == y) = true
    · rw [q] at e
      cases e
      have : x = y := by simpa using q
      rw [this]
      exact List.mem_cons_self ..
    · rw [Bool.eq_false_iff.mpr q] at e
      exact List.mem_cons_of_mem _ (look_mem e)
theorem top_of (X : K.In h) (G : h.Ns mainGlobals mg) (c : He.SaysD (faOf globs tab bl xs rf) (fnOf tab xs rf) K) (gok : globs.all (fun q => glOk q.2) = true) : Top K mg globs tab bl where
  fn := fun e he => by
    obtain ⟨fd, F⟩ := c.defs (d := e.defD) (List.mem_append_left _ (List.mem_map_of_mem he))
    have g := He.glo_ok X G (c.facts (f := .glo e.nm) (List.mem_append_left _ (List.mem_map_of_mem (f := fun e : Ent => He.Fa.glo e.nm) he)))
    exact ⟨_, fd, g, F⟩
  fr := fun x hx => He.free_ok X G (c.facts (f := .free x) (List.mem_append_right _ (List.mem_append_left _ (List.mem_map_of_mem hx))))
  glo := fun x d e => by
    have hm := look_mem e
    have hk : glOk d = true := List.all_eq_true.mp gok _ hm
    have fa := c.facts (f := glFa (x, d)) (List.mem_append_right _ (List.mem_append_right _ (List.mem_append_left _ (List.mem_map_of_mem hm))))
    cases d with
    | int i =>
      obtain ⟨t, e2⟩ := He.int_ok X G fa
      exact ⟨.int i, _, e2, ⟨t, rfl⟩, fun _ => .int i⟩
    | str s =>
      obtain ⟨t, e2⟩ := He.str_ok X G fa
      exact ⟨.str s, _, e2, ⟨t, rfl⟩, fun _ => .str s⟩
    | _ => cases hk
theorem xtop_of (X : K.In h) (G : h.Ns mainGlobals mg) (c : He.SaysD (faOf globs tab bl xs rf) (fnOf tab xs rf) K) (ex : exB xs K = true) : XTop K mg xs := by
  have ne : ∀ {e : XEnt}, e ∈ xs → xs.isEmpty = false := fun he => by
    cases xs with
    | nil => cases he
    | cons _ _ => rfl
  have go : ∀ {x : Str}, xs.isEmpty = false → x ∈ (("RestError" : Str) :: xs.map (·.cls)) → mg x = some (.ref (He.ga K x)) := fun {x} hn hx => by
    refine He.glo_ok X G (c.facts (f := .glo x) (List.mem_append_right _ (List.mem_append_right _ (List.mem_append_right _ (List.mem_append_left _ ?_)))))
    rw [hn]
    show He.Fa.glo x ∈ He.Fa.glo "RestError" :: xs.map fun e => He.Fa.glo e.cls
    rcases List.mem_cons.mp hx with z | z
    · rw [z]; exact List.mem_cons_self ..
    · obtain ⟨e, he, rfl⟩ := List.mem_map.mp z
      exact List.mem_cons_of_mem _ (List.mem_map_of_mem (f := fun e : XEnt => He.Fa.glo e.cls) he)
  have parts : xs.isEmpty = false → baseB K (He.ga K "RestError") = true ∧ xs.all (entB K) = true ∧ (xs.all fun e => ((("RestError" : Str) :: xs.map (·.cls)).all fun c => decide (PySem.W.exmOne K (.ref (He.ga K e.cls)) (.ref (He.ga K c)) = some (c == ("RestError" : Str) || c == e.cls)))) = true := fun hn => by
    unfold exB at ex
    rw [hn, Bool.false_or] at ex
    obtain ⟨h1, h2⟩ := Bool.and_eq_true_iff.mp ex
    obtain ⟨h2, h3⟩ := Bool.and_eq_true_iff.mp h2
    exact ⟨h1, h2, h3⟩
  refine ⟨fun hx => ?_, fun e he => ?_, fun e he cc b hb => ?_⟩
  · have hn : xs.isEmpty = false := by
      cases xs with
      | nil => exact (hx rfl).elim
      | cons _ _ => rfl
    have hB := (parts hn).1
    unfold baseB at hB
    obtain ⟨h1, hB⟩ := Bool.and_eq_true_iff.mp hB
    obtain ⟨h2, hB⟩ := Bool.and_eq_true_iff.mp hB
    obtain ⟨h3, h4⟩ := Bool.and_eq_true_iff.mp hB
    exact ⟨_, go hn (List.mem_cons_self ..), of_decide_eq_true h1, of_decide_eq_true h2, h3, by
      split at h4
      · rename_i b hb
        have : b = "ValueError.__init__" := by simpa using h4
        rw [← this]
        exact hb
      · cases h4⟩
  · have hn := ne he
    have hE := List.all_eq_true.mp (parts hn).2.1 e he
    unfold entB at hE
    obtain ⟨h1, hE⟩ := Bool.and_eq_true_iff.mp hE
    obtain ⟨h2, hE⟩ := Bool.and_eq_true_iff.mp hE
    obtain ⟨h3, hE⟩ := Bool.and_eq_true_iff.mp hE
    obtain ⟨h4, h5⟩ := Bool.and_eq_true_iff.mp hE
    obtain ⟨fd, F⟩ := c.defs (d := e.defD) (List.mem_append_right _ (List.mem_append_left _ (List.mem_map_of_mem he)))
    exact ⟨_, _, fd, _, _, go hn (List.mem_cons_of_mem _ (List.mem_map_of_mem he)), oexB_ok h1, of_decide_eq_true h2, of_decide_eq_true h3, F, xfB_ok h4, fun f hf => of_decide_eq_true (List.all_eq_true.mp h5 f hf)⟩
  · have hn := ne he
    have hM := List.all_eq_true.mp (parts hn).2.2 e he
    have key : cc ∈ (("RestError" : Str) :: xs.map (·.cls)) ∧ b = (cc == ("RestError" : Str) || cc == e.cls) := by
      unfold exIs at hb
      split at hb
      · split at hb
        · rename_i h1
          cases hb
          refine ⟨?_, by rw [h1]; simp⟩
          rw [h1]
          exact List.mem_cons_of_mem _ (List.mem_map_of_mem he)
        · rename_i h1
          split at hb
          · rename_i h2
            cases hb
            exact ⟨by rw [h2]; exact List.mem_cons_self .., by rw [h2]; simp⟩
          · rename_i h2
            split at hb
            · rename_i h3
              cases hb
              obtain ⟨fs, hfs⟩ := Option.isSome_iff_exists.mp h3
              obtain ⟨e2, he2, rfl, _⟩ := look_mem' hfs
              refine ⟨List.mem_cons_of_mem _ (List.mem_map_of_mem he2), ?_⟩
              have q1 : (e2.cls == ("RestError" : Str)) = false := beq_false_of_ne h2
              have q2 : (e2.cls == e.cls) = false := beq_false_of_ne h1
              rw [q1, q2]
              rfl
            · cases hb
      · cases hb
    obtain ⟨k1, rfl⟩ := key
    exact ⟨_, _, go hn (List.mem_cons_of_mem _ (List.mem_map_of_mem he)), go hn k1, of_decide_eq_true (List.all_eq_true.mp hM cc k1)⟩
theorem look_rf {f : Str} {r : Rf} : ∀ {rf : List RfEnt}, (rf.map fun e => (e.nm, e.r)).lookup f = some r → ∃ e ∈ rf, e.nm = f ∧ e.r = r
  | [], e => by cases e
  | a :: rf, e => by
    have e' : List.lookup f ((a.nm, a.r) :: rf.map fun e => (e.nm, e.r)) = some r := e
    rw [List.lookup_cons] at e'
    by_cases q : (f == a.nm) = true
    · rw [q] at e'
      cases e'
      exact ⟨a, List.mem_cons_self .., (by simpa using q : f = a.nm).symm, rfl⟩
    · rw [Bool.eq_false_iff.mpr q] at e'
      obtain ⟨b, h1, h2⟩ := look_rf (rf := rf) e'
      exact ⟨b, List.mem_cons_of_mem _ h1, h2⟩
theorem rtop_of (X : K.In h) (G : h.Ns mainGlobals mg) (c : He.SaysD (faOf globs tab bl xs rf) (fnOf tab xs rf) K) (XT : XTop K mg xs) (ex : rfB rf xs K = true) (go : ∀ e ∈ xs, mg e.cls = some (.ref (He.ga K e.cls))) {refs : List (Str × Rf)} {e : RfEnt} (he : e ∈ rf) : RefX K mg (progX globs tab xs refs).sg (He.ga K) e.cs e.r ∧ ∃ fd, mg e.nm = some (.ref (He.ga K e.nm)) ∧ FunD K e.nm e.nm (defArgs e.st) (defBody e.st) (defScope e.st) [] [] (He.ga K e.nm) fd := by
  have inF : ∀ f, f ∈ (He.Fa.glo e.nm :: .free "isinstance" :: .free "ValueError" :: (e.r.cls :: e.cs).map .glo) → f ∈ faOf globs tab bl xs rf := fun f hf => List.mem_append_right _ (List.mem_append_right _ (List.mem_append_right _ (List.mem_append_right _ (List.mem_flatMap.mpr ⟨e, he, hf⟩))))
  have hE := List.all_eq_true.mp ex e he
  obtain ⟨fd, F⟩ := c.defs (d := e.defD) (List.mem_append_right _ (List.mem_append_right _ (List.mem_map_of_mem he)))
  refine ⟨⟨He.free_ok X G (c.facts (inF _ (by simp))), He.free_ok X G (c.facts (inF _ (by simp))), fun n hn => He.glo_ok X G (c.facts (f := .glo n) (inF _ ?_)), fun y hy => ?_⟩, fd, He.glo_ok X G (c.facts (f := .glo e.nm) (inF _ (by simp))), F⟩
  · exact List.mem_cons_of_mem _ (List.mem_cons_of_mem _ (List.mem_cons_of_mem _ (List.mem_map_of_mem hn)))
  · obtain ⟨fs, hfs⟩ := Option.isSome_iff_exists.mp hy
    obtain ⟨z, hz, rfl, rfl⟩ := look_mem' (show (excsOf xs).lookup y = some fs from hfs)
    have hZ := List.all_eq_true.mp hE z hz
    simp only [Bool.and_eq_true, Bool.or_eq_true, Bool.not_eq_true'] at hZ
    obtain ⟨h1, h2, h3⟩ := hZ
    refine ⟨go z hz, excB_ok h1, fun ey => ?_, ?_⟩
    · obtain ⟨Cc, fI, fd2, nm, qual, m1, _, _, _, _, xf, no⟩ := XT.ent z hz
      rw [go z hz] at m1
      cases m1
      refine ⟨xf, fun f hf => no f ?_⟩
      rcases h3 with h3 | h3
      · rw [ey] at h3
        simp at h3
      · exact List.contains_iff_mem.mp (List.all_eq_true.mp h3 f hf)
    · split at h2
      · rename_i b1 b2 b3 k1 k2 k3
        exact ⟨b1, b2, b3, k1, k2, k3, by simpa using h2⟩
      · cases h2
/-- the law, from the evaluator's answer to every script -/
theorem law_end {P : Program} {w : World} {fa : Addr} {n most : Nat} {e : Ent} {x : Str} {refs : List (Str × Rf)} (hrf : refs = rf.map fun e => (e.nm, e.r)) (rok : rf.all RfEnt.ok = true) (X : K.In h) (G : h.Ns mainGlobals mg) (cx : He.SaysT (faOf globs tab bl xs rf) (fnOf tab xs rf) [] w K ∧ (exB xs K && rfB rf xs K) = true) (hfa : mg e.nm = some (.ref fa))
    (gok : globs.all (fun q => glOk q.2) = true) (nd : (tab.map (·.nm)).Nodup) (ok : tab.all (Ent.ok (progX globs tab xs refs).sg bl) = true) (xok : xs.all XEnt.ok = true) (he : e ∈ tab) (hps : e.ps = [x]) (hms : e.ms = [false])
    (law : ∀ ns : List Int, ns.length ≤ most → ∃ fin, evFn (progX globs tab xs refs) n e.nm [.imm (.list (ns.map PyData.int))] = .ok (.imm (.bool true)) fin) :
    ∃ (K : PySem.W.Frag) (fd : FuncData) (sp : Sp), K.In h ∧ (∀ (s : Shared) (u : Value), BindsTo s fd ⟨[u], []⟩ [(x, u)]) ∧
      (∀ (H : Hp) (a : Addr) (ns : List Int), ns.length ≤ most → SqP K H a (ns.map V.int) → sp [.ref a] H (fun v _ => v = .bl true) fun _ _ _ => False) ∧
      ∀ base : Heap, K.In base → base.Ns mainGlobals mg → FnG P w K mg base (n + 3) fa fd [x] sp := by
  have c := cx.1.d
  have T := top_of X G c gok
  obtain ⟨cx1, cx2⟩ := Bool.and_eq_true_iff.mp cx.2
  have XT := xtop_of X G c cx1
  have go : ∀ e ∈ xs, mg e.cls = some (.ref (He.ga K e.cls)) := fun e he => by
    refine He.glo_ok X G (c.facts (f := .glo e.cls) (List.mem_append_right _ (List.mem_append_right _ (List.mem_append_right _ (List.mem_append_left _ ?_)))))
    cases xs with
    | nil => cases he
    | cons b r => exact List.mem_cons_of_mem _ (List.mem_map_of_mem (f := fun e : XEnt => He.Fa.glo e.cls) he)
  have rfs : ∀ (base : Heap) (X : Cx) (g : Gx) f r, refs.lookup f = some r → X.K = K → X.mg = mg → X.prog = P → X.w = w → X.base = base → g.K = K → g.mg = mg → L2H.RoomH 3 X.A → Gl X f → RefOk X g (progX globs tab xs refs).sg f r := fun base Y g f r hl eK eM _ _ _ gK gM rm hg => by
    rw [hrf] at hl
    obtain ⟨z, hz, rfl, rfl⟩ := look_rf hl
    obtain ⟨R, fd, m, F⟩ := rtop_of X G c XT cx2 go (refs := refs) hz
    have ok := List.all_eq_true.mp rok z hz
    unfold RfEnt.ok at ok
    simp only [Bool.and_eq_true, Bool.not_eq_true'] at ok
    obtain ⟨⟨⟨o1, o2⟩, o3⟩, o4⟩ := ok
    subst eK eM
    exact ref_ok F (scopeOk_ok o2) (F.bindsN (args_bind F o1 (List.nodup_cons.mpr ⟨by simp, .nil⟩))) o3 R rm m gM hg o4
  obtain ⟨fa', fd, m, F⟩ := T.fn e he
  rw [hfa] at m
  cases m
  have oe := List.all_eq_true.mp ok e he
  unfold Ent.ok at oe
  simp only [Bool.and_eq_true, decide_eq_true_eq] at oe
  have S := scopeOk_ok oe.1.1.1.2
  have pn : e.ps.Nodup := by
    rw [hps]
    exact List.nodup_cons.mpr ⟨by simp, .nil⟩
  refine ⟨K, fd, spF K mg (fun x => globs.lookup x) [false] (evFn (progX globs tab xs refs) n e.nm), X, fun s u => ?_, fun H a ns hl hs => ?_, fun base _ _ => ?_⟩
  · have b := F.bindsA (args_bind F oe.1.1.1.1 pn) s [u] (by rw [hps]; rfl)
    rw [hps] at b
    exact b
  · obtain ⟨fin, ev⟩ := law ns hl
    exact law_sp ev hs
  · have := table_ok (P := P) (w := w) (base := base) T nd ok XT xok (rfs base) n e he fa fd F
    rw [hps, hms] at this
    exact this
end
end Ev
end
section
namespace Ev
namespace K
open PySem PySem.Spec PyProof.Rows L2
abbrev topS (i : Nat) : Stmt := PySem.Challenge.pw_shufflerests_k76_null_papers_of_two_lett.main.body.getD i (.Pass ⟨0, 0, 0, 0⟩)
def c_common : C :=
  (.sCons (.set 0 (.bi .abs (.cons (.var 0) .nil)))
  (.sCons (.set 1 (.bi .abs (.cons (.var 1) .nil)))
  (.sCons (.whl 200000 (.cmp .gt (.var 1) (.int 0)) (.sCons (.set 2 (.bin .mod (.var 0) (.var 1)))
  (.sCons (.set 0 (.var 1))
  (.sCons (.set 1 (.var 2))
  .sNil))))
  (.sCons (.ret (.mov 0))
  .sNil))))
def e_common : Ent := ⟨topS 10, "common", ["a", "b"], ["a", "b", "rest"], [false, false], ⟨3, c_common⟩⟩
def c_poly : C :=
  (.sCons (.set 2 (.lc [3] (.tN 3) (.iE (.var 1)) .no (.bin .mod (.var 3) (.var 0))))
  (.sCons (.whl 200000 (.and (.cmp .gt (.bi .len (.cons (.var 2) .nil)) (.int 0)) (.cmp .eq (.idx (.var 2) (.neg (.int 1))) (.int 0))) (.sCons (.popS 2)
  .sNil))
  (.sCons (.ret (.bi .tuple (.cons (.var 2) .nil)))
  .sNil)))
def e_poly : Ent := ⟨topS 12, "poly", ["m", "numbers"], ["m", "numbers", "found", "number"], [false, false], ⟨4, c_poly⟩⟩
def c_coefficient_at : C :=
  (.sCons (.ret (.ite (.cmp .lt (.var 1) (.bi .len (.cons (.var 0) .nil))) (.idx (.var 0) (.var 1)) (.int 0)))
  .sNil)
def e_coefficient_at : Ent := ⟨topS 13, "coefficient_at", ["f", "k"], ["f", "k"], [false, false], ⟨2, c_coefficient_at⟩⟩
def c_plus : C :=
  (.sCons (.ret (.call "poly" (.cons (.var 0) (.cons (.lc [3] (.tN 3) (.iR1 (.bi .max (.cons (.bi .len (.cons (.var 1) .nil)) (.cons (.bi .len (.cons (.var 2) .nil)) .nil)))) .no (.bin .add (.call "coefficient_at" (.cons (.var 1) (.cons (.var 3) .nil))) (.call "coefficient_at" (.cons (.var 2) (.cons (.var 3) .nil))))) .nil))))
  .sNil)
def e_plus : Ent := ⟨topS 14, "plus", ["m", "f", "g"], ["m", "f", "g", "k"], [false, false, false], ⟨4, c_plus⟩⟩
def c_times : C :=
  (.sCons (.set 3 (.bin .mul (.lst (.cons (.int 0) .nil)) (.bin .add (.bi .len (.cons (.var 1) .nil)) (.bi .len (.cons (.var 2) .nil)))))
  (.sCons (.forS (.tN 4) (.iR1 (.bi .len (.cons (.var 1) .nil))) (.sCons (.forS (.tN 5) (.iR1 (.bi .len (.cons (.var 2) .nil))) (.sCons (.stI 3 (.bin .add (.var 4) (.var 5)) (.bin .mod (.bin .add (.idx (.var 3) (.bin .add (.var 4) (.var 5))) (.bin .mul (.idx (.var 1) (.var 4)) (.idx (.var 2) (.var 5)))) (.var 0)))
  .sNil))
  .sNil))
  (.sCons (.ret (.call "poly" (.cons (.var 0) (.cons (.var 3) .nil))))
  .sNil)))
def e_times : Ent := ⟨topS 15, "times", ["m", "f", "g"], ["m", "f", "g", "found", "i", "j"], [false, false, false], ⟨6, c_times⟩⟩
def c_is_rest : C :=
  (.sCons (.ret (.and (.isi (.var 1) .int) (.and (.not (.isi (.var 1) .bool)) (.chain .le .lt (.int 0) (.var 1) (.var 0)))))
  .sNil)
def e_is_rest : Ent := ⟨topS 17, "is_rest", ["m", "thing"], ["m", "thing"], [false, false], ⟨2, c_is_rest⟩⟩
def c_poly2 : C :=
  (.sCons (.set 2 (.lc [3] (.tN 3) (.iE (.var 1)) .no (.call "poly" (.cons (.var 0) (.cons (.var 3) .nil)))))
  (.sCons (.whl 200000 (.and (.cmp .gt (.bi .len (.cons (.var 2) .nil)) (.int 0)) (.cmp .eq (.idx (.var 2) (.neg (.int 1))) (.tup .nil))) (.sCons (.popS 2)
  .sNil))
  (.sCons (.ret (.bi .tuple (.cons (.var 2) .nil)))
  .sNil)))
def e_poly2 : Ent := ⟨topS 18, "poly2", ["m", "rows"], ["m", "rows", "found", "row"], [false, false], ⟨4, c_poly2⟩⟩
def c_row_of : C :=
  (.sCons (.ret (.ite (.cmp .lt (.var 1) (.bi .len (.cons (.var 0) .nil))) (.idx (.var 0) (.var 1)) (.tup .nil)))
  .sNil)
def e_row_of : Ent := ⟨topS 19, "row_of", ["P", "i"], ["P", "i"], [false, false], ⟨2, c_row_of⟩⟩
def c_rising_product : C :=
  (.sCons (.set 1 (.int 1))
  (.sCons (.forS (.tN 2) (.iR2 (.int 2) (.bin .add (.var 0) (.int 1))) (.sCons (.set 1 (.bin .mul (.var 1) (.var 2)))
  .sNil))
  (.sCons (.ret (.mov 1))
  .sNil)))
def e_rising_product : Ent := ⟨topS 22, "rising_product", ["k"], ["k", "found", "one"], [false], ⟨3, c_rising_product⟩⟩
def c_top2 : C :=
  (.sCons (.ret (.bin .div (.var 0) (.call "common" (.cons (.var 0) (.cons (.bin .mul (.call "rising_product" (.cons (.var 1) .nil)) (.call "rising_product" (.cons (.var 2) .nil))) .nil)))))
  .sNil)
def e_top2 : Ent := ⟨topS 23, "top2", ["m", "i", "j"], ["m", "i", "j"], [false, false, false], ⟨3, c_top2⟩⟩
def c_all_neighbours : C :=
  (.sCons (.set 2 (.lst .nil))
  (.sCons (.set 3 (.call "poly" (.cons (.var 0) (.cons (.lst (.cons (.int 1) .nil)) .nil))))
  (.sCons (.forS (.tN 4) (.iR1 (.var 1)) (.sCons (.app 2 (.var 3))
  (.sCons (.set 3 (.call "times" (.cons (.var 0) (.cons (.var 3) (.cons (.call "poly" (.cons (.var 0) (.cons (.lst (.cons (.neg (.var 4)) (.cons (.int 1) .nil))) .nil))) .nil)))))
  .sNil)))
  (.sCons (.ret (.mov 2))
  .sNil))))
def e_all_neighbours : Ent := ⟨topS 24, "all_neighbours", ["m", "many"], ["m", "many", "found", "last", "k"], [false, false], ⟨5, c_all_neighbours⟩⟩
def c_wide_of : C :=
  (.sCons (.ret (.mxd (.lc [1] (.tN 1) (.iE (.var 0)) .no (.bi .len (.cons (.var 1) .nil))) (.int 0)))
  .sNil)
def e_wide_of : Ent := ⟨topS 25, "wide_of", ["table"], ["table", "row"], [false], ⟨2, c_wide_of⟩⟩
def c_built : C :=
  (.sCons (.set 2 (.call "all_neighbours" (.cons (.var 0) (.cons (.bi .max (.cons (.bi .len (.cons (.var 1) .nil)) (.cons (.call "wide_of" (.cons (.var 1) .nil)) .nil))) .nil))))
  (.sCons (.set 3 (.bin .mul (.lst (.cons (.tup .nil) .nil)) (.bi .len (.cons (.var 1) .nil))))
  (.sCons (.forS (.tT (.cons (.tN 4) (.cons (.tN 5) .nil))) (.iEn (.var 1)) (.sCons (.set 6 (.tup .nil))
  (.sCons (.forS (.tT (.cons (.tN 7) (.cons (.tN 8) .nil))) (.iEn (.var 5)) (.sCons (.ifS (.cmp .ne (.bin .mod (.var 8) (.var 0)) (.int 0)) (.sCons (.set 6 (.call "plus" (.cons (.var 0) (.cons (.var 6) (.cons (.call "times" (.cons (.var 0) (.cons (.idx (.var 2) (.var 7)) (.cons (.call "poly" (.cons (.var 0) (.cons (.lst (.cons (.var 8) .nil)) .nil))) .nil)))) .nil)))))
  .sNil) .sNil)
  .sNil))
  (.sCons (.ifS (.cmp .ne (.var 6) (.tup .nil)) (.sCons (.forS (.tT (.cons (.tN 9) (.cons (.tN 8) .nil))) (.iEn (.idx (.var 2) (.var 4))) (.sCons (.stI 3 (.var 9) (.call "plus" (.cons (.var 0) (.cons (.idx (.var 3) (.var 9)) (.cons (.call "times" (.cons (.var 0) (.cons (.var 6) (.cons (.call "poly" (.cons (.var 0) (.cons (.lst (.cons (.var 8) .nil)) .nil))) .nil)))) .nil)))))
  .sNil))
  .sNil) .sNil)
  .sNil))))
  (.sCons (.ret (.call "poly2" (.cons (.var 0) (.cons (.var 3) .nil))))
  .sNil))))
def e_built : Ent := ⟨topS 26, "built", ["m", "table"], ["m", "table", "sides", "found", "i", "row", "inner", "j", "one", "e"], [false, false], ⟨10, c_built⟩⟩
def c_is_table : C :=
  (.sCons (.ifS (.or (.not (.isi (.var 1) .tuple)) (.cmp .gt (.bi .len (.cons (.var 1) .nil)) (.glob "MOST_ROWS"))) (.sCons (.ret (.bl false))
  .sNil) .sNil)
  (.sCons (.forS (.tN 2) (.iE (.var 1)) (.sCons (.ifS (.or (.not (.isi (.var 2) .tuple)) (.or (.cmp .gt (.bi .len (.cons (.var 2) .nil)) (.glob "MOST_ROWS")) (.not (.bi .all (.cons (.lc [3] (.tN 3) (.iE (.var 2)) .no (.call "is_rest" (.cons (.var 0) (.cons (.var 3) .nil)))) .nil))))) (.sCons (.ret (.bl false))
  .sNil) .sNil)
  .sNil))
  (.sCons (.ret (.bl true))
  .sNil)))
def e_is_table : Ent := ⟨topS 27, "is_table", ["m", "thing"], ["m", "thing", "row", "one"], [false, false], ⟨4, c_is_table⟩⟩
def c_row_of_tops : C :=
  (.sCons (.ret (.lc [3, 4] (.tT (.cons (.tN 3) (.cons (.tN 4) .nil))) (.iEn (.var 2)) .no (.ite (.cmp .ne (.var 4) (.int 0)) (.bin .mul (.var 4) (.call "top2" (.cons (.var 0) (.cons (.var 1) (.cons (.var 3) .nil))))) (.int 0))))
  .sNil)
def e_row_of_tops : Ent := ⟨topS 28, "row_of_tops", ["m", "i", "row"], ["m", "i", "row", "j", "one"], [false, false, false], ⟨5, c_row_of_tops⟩⟩
def c_lets_null2 : C :=
  (.sCons (.ifS (.not (.call "is_table" (.cons (.var 0) (.cons (.var 2) .nil)))) (.sCons (.rse "NoPaper" (.cons (.str "shape") (.cons (.int 0) .nil)))
  .sNil) .sNil)
  (.sCons (.set 3 (.call "built" (.cons (.var 0) (.cons (.lc [4] (.tN 4) (.iR1 (.bi .len (.cons (.var 2) .nil))) .no (.call "row_of_tops" (.cons (.var 0) (.cons (.var 4) (.cons (.idx (.var 2) (.var 4)) .nil))))) .nil))))
  (.sCons (.forS (.tN 4) (.iR1 (.bi .max (.cons (.bi .len (.cons (.var 1) .nil)) (.cons (.bi .len (.cons (.var 3) .nil)) .nil)))) (.sCons (.ifS (.cmp .ne (.call "row_of" (.cons (.var 1) (.cons (.var 4) .nil))) (.call "row_of" (.cons (.var 3) (.cons (.var 4) .nil)))) (.sCons (.rse "NoPaper" (.cons (.str "sum") (.cons (.var 4) .nil)))
  .sNil) .sNil)
  .sNil))
  (.sCons (.ret (.bl true))
  .sNil))))
def e_lets_null2 : Ent := ⟨topS 29, "lets_null2", ["m", "P", "thing"], ["m", "P", "thing", "found", "i"], [false, false, false], ⟨5, c_lets_null2⟩⟩
def c__law_tape : C :=
  (.sCons (.ret (.lst (.cons (.bi .list (.cons (.slc (.var 0) .no (.int 63)) .nil)) (.cons (.int 0) (.cons (.int 0) .nil)))))
  .sNil)
def e__law_tape : Ent := ⟨topS 31, "_law_tape", ["_law_script"], ["_law_script"], [false], ⟨1, c__law_tape⟩⟩
def c__law_draw : C :=
  (.sCons (.ifS (.cmp .gt (.idx (.var 0) (.int 2)) (.int 0)) (.sCons (.set 5 (.bin .mod (.idx (.var 0) (.int 2)) (.var 1)))
  (.sCons (.stI 0 (.int 2) (.bin .div (.idx (.var 0) (.int 2)) (.var 1)))
  (.sCons (.ret (.mov 5))
  .sNil))) .sNil)
  (.sCons (.set 2 (.idx (.var 0) (.int 1)))
  (.sCons (.stI 0 (.int 1) (.bin .add (.var 2) (.int 1)))
  (.sCons (.set 3 (.bin .mul (.var 2) (.var 2)))
  (.sCons (.ifS (.cmp .ne (.idx (.var 0) (.int 0)) (.lst .nil)) (.sCons (.set 3 (.idx (.idx (.var 0) (.int 0)) (.bin .mod (.var 2) (.bi .len (.cons (.idx (.var 0) (.int 0)) .nil)))))
  .sNil) .sNil)
  (.sCons (.ifS (.and (.cmp .ge (.var 3) (.bin .pow (.int 10) (.int 18))) (.cmp .lt (.var 2) (.bi .len (.cons (.idx (.var 0) (.int 0)) .nil)))) (.sCons (.stI 0 (.int 2) (.bin .div (.var 3) (.var 1)))
  (.sCons (.ret (.bin .mod (.var 3) (.var 1)))
  .sNil)) .sNil)
  (.sCons (.set 4 (.bin .mod (.bin .mul (.bin .add (.bin .add (.bin .mul (.bin .mod (.var 3) (.int 1000003)) (.int 613)) (.bin .mul (.int 104729) (.var 2))) (.int 17)) (.int 48271)) (.int 2147483647)))
  (.sCons (.set 4 (.bin .mod (.bin .mul (.bin .mod (.bin .add (.bin .mul (.var 4) (.int 40692)) (.bin .mul (.var 2) (.var 2))) (.int 2147483399)) (.int 16807)) (.int 2147483629)))
  (.sCons (.ret (.bin .mod (.bin .div (.var 4) (.int 64)) (.var 1)))
  .sNil)))))))))
def e__law_draw : Ent := ⟨topS 32, "_law_draw", ["_law_tape_here", "_law_many"], ["_law_tape_here", "_law_many", "_law_spot", "_law_cell", "_law_mixed", "_law_found"], [true, false], ⟨6, c__law_draw⟩⟩
def c__law_number : C :=
  (.sCons (.ifS (.cmp .eq (.call "_law_draw" (.cons (.var 0) (.cons (.var 1) .nil))) (.int 1)) (.sCons (.ret (.idx (.lst (.cons (.int 7) (.cons (.int 14) (.cons (.int 15) (.cons (.int 20) (.cons (.int 21) (.cons (.int 28) (.cons (.int 30) (.cons (.int 35) .nil))))))))) (.call "_law_draw" (.cons (.var 0) (.cons (.int 8) .nil)))))
  .sNil) .sNil)
  (.sCons (.ret (.idx (.lst (.cons (.int 2) (.cons (.int 3) (.cons (.int 4) (.cons (.int 6) (.cons (.int 8) (.cons (.int 12) (.cons (.int 24) (.cons (.int 5) (.cons (.int 10) (.cons (.int 9) (.cons (.int 18) (.cons (.int 16) (.cons (.int 36) .nil)))))))))))))) (.call "_law_draw" (.cons (.var 0) (.cons (.int 13) .nil)))))
  .sNil))
def e__law_number : Ent := ⟨topS 33, "_law_number", ["_law_tape_here", "_law_rare"], ["_law_tape_here", "_law_rare"], [true, false], ⟨2, c__law_number⟩⟩
def c__law_trim : C :=
  (.sCons (.set 2 (.lst .nil))
  (.sCons (.forS (.tN 3) (.iE (.var 1)) (.sCons (.set 4 (.lc [5] (.tN 5) (.iE (.var 3)) .no (.bin .mod (.var 5) (.var 0))))
  (.sCons (.whl 200000 (.and (.cmp .ne (.var 4) (.lst .nil)) (.cmp .eq (.idx (.var 4) (.neg (.int 1))) (.int 0))) (.sCons (.popS 4)
  .sNil))
  (.sCons (.app 2 (.bi .tuple (.cons (.var 4) .nil)))
  .sNil))))
  (.sCons (.whl 200000 (.and (.cmp .ne (.var 2) (.lst .nil)) (.cmp .eq (.idx (.var 2) (.neg (.int 1))) (.tup .nil))) (.sCons (.popS 2)
  .sNil))
  (.sCons (.ret (.bi .tuple (.cons (.var 2) .nil)))
  .sNil))))
def e__law_trim : Ent := ⟨topS 34, "_law_trim", ["_law_m", "_law_rows"], ["_law_m", "_law_rows", "_law_found", "_law_row", "_law_some", "_law_one"], [false, false], ⟨6, c__law_trim⟩⟩
def c__law_any : C :=
  (.sCons (.set 3 (.lst .nil))
  (.sCons (.forS (.tN 4) (.iR1 (.bin .add (.var 2) (.int 1))) (.sCons (.app 3 (.lc [5] (.tN 5) (.iR1 (.bin .sub (.bin .add (.var 2) (.int 1)) (.var 4))) .no (.bin .mul (.call "_law_draw" (.cons (.var 0) (.cons (.var 1) .nil))) (.bi .int (.cons (.cmp .eq (.call "_law_draw" (.cons (.var 0) (.cons (.int 2) .nil))) (.int 0)) .nil)))))
  .sNil))
  (.sCons (.ret (.call "_law_trim" (.cons (.var 1) (.cons (.var 3) .nil))))
  .sNil)))
def e__law_any : Ent := ⟨topS 35, "_law_any", ["_law_tape_here", "_law_m", "_law_most"], ["_law_tape_here", "_law_m", "_law_most", "_law_rows", "_law_i", "_law_j"], [true, false, false], ⟨6, c__law_any⟩⟩
def c__law_add : C :=
  (.sCons (.set 4 (.lst .nil))
  (.sCons (.forS (.tN 5) (.iR1 (.bi .max (.cons (.bi .len (.cons (.var 1) .nil)) (.cons (.bi .len (.cons (.var 2) .nil)) .nil)))) (.sCons (.set 6 (.ite (.cmp .lt (.var 5) (.bi .len (.cons (.var 1) .nil))) (.bi .list (.cons (.idx (.var 1) (.var 5)) .nil)) (.lst .nil)))
  (.sCons (.set 7 (.ite (.cmp .lt (.var 5) (.bi .len (.cons (.var 2) .nil))) (.bi .list (.cons (.idx (.var 2) (.var 5)) .nil)) (.lst .nil)))
  (.sCons (.set 8 (.bi .max (.cons (.bi .len (.cons (.var 6) .nil)) (.cons (.bi .len (.cons (.var 7) .nil)) .nil))))
  (.sCons (.set 6 (.bin .add (.var 6) (.bin .mul (.lst (.cons (.int 0) .nil)) (.bin .sub (.var 8) (.bi .len (.cons (.var 6) .nil))))))
  (.sCons (.set 7 (.bin .add (.var 7) (.bin .mul (.lst (.cons (.int 0) .nil)) (.bin .sub (.var 8) (.bi .len (.cons (.var 7) .nil))))))
  (.sCons (.app 4 (.lc [9] (.tN 9) (.iR1 (.var 8)) .no (.bin .add (.idx (.var 6) (.var 9)) (.bin .mul (.var 3) (.idx (.var 7) (.var 9))))))
  .sNil)))))))
  (.sCons (.ret (.call "_law_trim" (.cons (.var 0) (.cons (.var 4) .nil))))
  .sNil)))
def e__law_add : Ent := ⟨topS 36, "_law_add", ["_law_m", "_law_kp", "_law_kq", "_law_by"], ["_law_m", "_law_kp", "_law_kq", "_law_by", "_law_rows", "_law_i", "_law_one", "_law_other", "_law_wide", "_law_j"], [false, false, false, false], ⟨10, c__law_add⟩⟩
def c__law_gcd : C :=
  (.sCons (.whl 200000 (.cmp .gt (.var 1) (.int 0)) (.sCons (.par 0 1 (.var 1) (.bin .mod (.var 0) (.var 1)))
  .sNil))
  (.sCons (.ret (.mov 0))
  .sNil))
def e__law_gcd : Ent := ⟨topS 37, "_law_gcd", ["_law_one", "_law_other"], ["_law_one", "_law_other"], [false, false], ⟨2, c__law_gcd⟩⟩
def c__law_top : C :=
  (.sCons (.set 3 (.int 1))
  (.sCons (.forS (.tN 4) (.iE (.bin .add (.lrg (.int 2) (.bin .add (.var 1) (.int 1))) (.lrg (.int 2) (.bin .add (.var 2) (.int 1))))) (.sCons (.set 3 (.bin .mul (.var 3) (.var 4)))
  .sNil))
  (.sCons (.ret (.bin .div (.var 0) (.call "_law_gcd" (.cons (.var 0) (.cons (.var 3) .nil)))))
  .sNil)))
def e__law_top : Ent := ⟨topS 38, "_law_top", ["_law_m", "_law_i", "_law_j"], ["_law_m", "_law_i", "_law_j", "_law_found", "_law_k"], [false, false, false], ⟨5, c__law_top⟩⟩
def c__law_unsplit : C :=
  (.sCons (.set 2 (.bi .list (.cons (.var 1) .nil)))
  (.sCons (.forS (.tN 3) (.iR3 (.bin .sub (.bi .len (.cons (.var 2) .nil)) (.int 1)) (.neg (.int 1)) (.neg (.int 1))) (.sCons (.forS (.tN 4) (.iR2 (.var 3) (.bin .sub (.bi .len (.cons (.var 2) .nil)) (.int 1))) (.sCons (.stI 2 (.var 4) (.bin .mod (.bin .sub (.idx (.var 2) (.var 4)) (.bin .mul (.var 3) (.idx (.var 2) (.bin .add (.var 4) (.int 1))))) (.var 0)))
  .sNil))
  .sNil))
  (.sCons (.ret (.mov 2))
  .sNil)))
def e__law_unsplit : Ent := ⟨topS 39, "_law_unsplit", ["_law_m", "_law_numbers"], ["_law_m", "_law_numbers", "_law_left", "_law_k", "_law_at"], [false, false], ⟨5, c__law_unsplit⟩⟩
def c__law_sum : C :=
  (.sCons (.set 2 (.mxd (.lc [5] (.tN 5) (.iE (.var 1)) .no (.bi .len (.cons (.var 5) .nil))) (.int 0)))
  (.sCons (.set 3 (.lc [5] (.tN 5) (.iE (.var 1)) .no (.call "_law_unsplit" (.cons (.var 0) (.cons (.bin .add (.bi .list (.cons (.var 5) .nil)) (.bin .mul (.lst (.cons (.int 0) .nil)) (.bin .sub (.var 2) (.bi .len (.cons (.var 5) .nil))))) .nil)))))
  (.sCons (.set 4 (.lc [6] (.tN 6) (.iR1 (.var 2)) .no (.call "_law_unsplit" (.cons (.var 0) (.cons (.lc [5] (.tN 5) (.iE (.var 3)) .no (.idx (.var 5) (.var 6))) .nil)))))
  (.sCons (.ret (.call "_law_trim" (.cons (.var 0) (.cons (.lc [7] (.tN 7) (.iR1 (.bi .len (.cons (.var 1) .nil))) .no (.lc [8] (.tN 8) (.iE (.var 4)) .no (.idx (.var 8) (.var 7)))) .nil))))
  .sNil))))
def e__law_sum : Ent := ⟨topS 40, "_law_sum", ["_law_m", "_law_table_here"], ["_law_m", "_law_table_here", "_law_wide", "_law_rows", "_law_columns", "_law_row", "_law_j", "_law_i", "_law_column"], [false, false], ⟨9, c__law_sum⟩⟩
def c__law_is_rest : C :=
  (.sCons (.ret (.and (.isi (.var 1) .int) (.and (.not (.isi (.var 1) .bool)) (.chain .le .lt (.int 0) (.var 1) (.var 0)))))
  .sNil)
def e__law_is_rest : Ent := ⟨topS 41, "_law_is_rest", ["_law_m", "_law_thing"], ["_law_m", "_law_thing"], [false, false], ⟨2, c__law_is_rest⟩⟩
def c__law_is_grid : C :=
  (.sCons (.ifS (.or (.not (.isi (.var 1) .tuple)) (.cmp .gt (.bi .len (.cons (.var 1) .nil)) (.int 80))) (.sCons (.ret (.bl false))
  .sNil) .sNil)
  (.sCons (.forS (.tN 2) (.iE (.var 1)) (.sCons (.ifS (.or (.not (.isi (.var 2) .tuple)) (.or (.cmp .gt (.bi .len (.cons (.var 2) .nil)) (.int 80)) (.cmp .inn (.bl false) (.lc [3] (.tN 3) (.iE (.var 2)) .no (.call "_law_is_rest" (.cons (.var 0) (.cons (.var 3) .nil))))))) (.sCons (.ret (.bl false))
  .sNil) .sNil)
  .sNil))
  (.sCons (.ret (.bl true))
  .sNil)))
def e__law_is_grid : Ent := ⟨topS 42, "_law_is_grid", ["_law_m", "_law_thing"], ["_law_m", "_law_thing", "_law_row", "_law_one"], [false, false], ⟨4, c__law_is_grid⟩⟩
def c__law_null_due : C :=
  (.sCons (.ifS (.not (.call "_law_is_grid" (.cons (.var 0) (.cons (.var 2) .nil)))) (.sCons (.ret (.tup (.cons (.str "shape") (.cons (.int 0) .nil))))
  .sNil) .sNil)
  (.sCons (.set 3 (.lst .nil))
  (.sCons (.forS (.tN 4) (.iR1 (.bi .len (.cons (.var 2) .nil))) (.sCons (.set 7 (.lc [8] (.tN 8) (.iR1 (.bi .len (.cons (.idx (.var 2) (.var 4)) .nil))) .no (.ite (.cmp .gt (.idx (.idx (.var 2) (.var 4)) (.var 8)) (.int 0)) (.bin .mul (.idx (.idx (.var 2) (.var 4)) (.var 8)) (.call "_law_top" (.cons (.var 0) (.cons (.var 4) (.cons (.var 8) .nil))))) (.int 0))))
  (.sCons (.app 3 (.var 7))
  .sNil)))
  (.sCons (.set 5 (.call "_law_sum" (.cons (.var 0) (.cons (.var 3) .nil))))
  (.sCons (.set 6 (.lc [4] (.tN 4) (.iR1 (.bi .max (.cons (.bi .len (.cons (.var 1) .nil)) (.cons (.bi .len (.cons (.var 5) .nil)) .nil)))) (.cmp .ne (.slc (.var 1) (.var 4) (.bin .add (.var 4) (.int 1))) (.slc (.var 5) (.var 4) (.bin .add (.var 4) (.int 1)))) (.var 4)))
  (.sCons (.set 6 (.lc [4] (.tN 4) (.iE (.var 6)) (.cmp .ne (.bin .add (.slc (.var 1) (.var 4) (.bin .add (.var 4) (.int 1))) (.slc (.var 5) (.var 4) (.bin .add (.var 4) (.int 1)))) (.tup (.cons (.tup .nil) .nil))) (.var 4)))
  (.sCons (.ret (.ite (.cmp .eq (.var 6) (.lst .nil)) (.bl true) (.tup (.cons (.str "sum") (.cons (.idx (.var 6) (.int 0)) .nil)))))
  .sNil)))))))
def e__law_null_due : Ent := ⟨topS 43, "_law_null_due", ["_law_m", "_law_kp", "_law_thing"], ["_law_m", "_law_kp", "_law_thing", "_law_table_here", "_law_i", "_law_found", "_law_apart", "_law_row", "_law_j"], [false, false, false], ⟨9, c__law_null_due⟩⟩
def c__law_told : C :=
  (.sCons (.set 3 (.str "other"))
  (.sCons (.tryS (.sCons (.set 3 (.call "lets_null2" (.cons (.var 0) (.cons (.var 1) (.cons (.var 2) .nil)))))
  .sNil)
  "RestError" (some 4) ⟨(some 3), (.ref "_law_refused")⟩)
  (.sCons (.ret (.mov 3))
  .sNil)))
def e__law_told : Ent := ⟨topS 45, "_law_told", ["_law_m", "_law_kp", "_law_thing"], ["_law_m", "_law_kp", "_law_thing", "_law_told_here", "_law_e"], [false, false, false], ⟨5, c__law_told⟩⟩
def c__law_table : C :=
  (.sCons (.set 2 (.lst .nil))
  (.sCons (.forS (.tN 3) (.iR1 (.call "_law_draw" (.cons (.var 0) (.cons (.int 7) .nil)))) (.sCons (.app 2 (.bi .tuple (.cons (.lc [4] (.tN 4) (.iR1 (.call "_law_draw" (.cons (.var 0) (.cons (.int 7) .nil)))) .no (.bin .mul (.call "_law_draw" (.cons (.var 0) (.cons (.var 1) .nil))) (.bi .int (.cons (.cmp .eq (.call "_law_draw" (.cons (.var 0) (.cons (.int 3) .nil))) (.int 0)) .nil)))) .nil)))
  .sNil))
  (.sCons (.ret (.bi .tuple (.cons (.var 2) .nil)))
  .sNil)))
def e__law_table : Ent := ⟨topS 46, "_law_table", ["_law_tape_here", "_law_m"], ["_law_tape_here", "_law_m", "_law_rows", "_law_i", "_law_j"], [true, false], ⟨5, c__law_table⟩⟩
def c__law_of_table : C :=
  (.sCons (.set 2 (.lst .nil))
  (.sCons (.forS (.tN 3) (.iR1 (.bi .len (.cons (.var 1) .nil))) (.sCons (.app 2 (.lc [4] (.tN 4) (.iR1 (.bi .len (.cons (.idx (.var 1) (.var 3)) .nil))) .no (.bin .mul (.idx (.idx (.var 1) (.var 3)) (.var 4)) (.call "_law_top" (.cons (.var 0) (.cons (.var 3) (.cons (.var 4) .nil)))))))
  .sNil))
  (.sCons (.ret (.call "_law_sum" (.cons (.var 0) (.cons (.var 2) .nil))))
  .sNil)))
def e__law_of_table : Ent := ⟨topS 47, "_law_of_table", ["_law_m", "_law_table_here"], ["_law_m", "_law_table_here", "_law_rows", "_law_i", "_law_j"], [false, false], ⟨5, c__law_of_table⟩⟩
def c__law_odd : C :=
  (.sCons (.set 3 (.call "_law_draw" (.cons (.var 0) (.cons (.bin .add (.bi .len (.cons (.var 2) .nil)) (.int 1)) .nil))))
  (.sCons (.set 4 (.ite (.cmp .lt (.var 3) (.bi .len (.cons (.var 2) .nil))) (.idx (.var 2) (.var 3)) (.tup .nil)))
  (.sCons (.set 5 (.call "_law_draw" (.cons (.var 0) (.cons (.bin .add (.bi .len (.cons (.var 4) .nil)) (.int 1)) .nil))))
  (.sCons (.set 6 (.idx (.lst (.cons (.var 1) (.cons (.neg (.int 1)) (.cons (.bl true) (.cons .non (.cons (.str "1") (.cons (.tup (.cons (.int 1) .nil)) (.cons (.lst (.cons (.int 1) .nil)) .nil)))))))) (.call "_law_draw" (.cons (.var 0) (.cons (.int 7) .nil)))))
  (.sCons (.set 7 (.lc [8] (.tN 8) (.iE (.tup (.cons (.var 6) (.cons (.call "_law_draw" (.cons (.var 0) (.cons (.var 1) .nil))) .nil)))) .no (.bin .add (.bin .add (.slc (.var 2) .no (.var 3)) (.tup (.cons (.bin .add (.bin .add (.slc (.var 4) .no (.var 5)) (.tup (.cons (.var 8) .nil))) (.slc (.var 4) (.bin .add (.var 5) (.int 1)) .no)) .nil))) (.slc (.var 2) (.bin .add (.var 3) (.int 1)) .no))))
  (.sCons (.set 7 (.bin .add (.var 7) (.lst (.cons (.bi .list (.cons (.var 2) .nil)) (.cons (.bin .add (.bin .add (.slc (.var 2) .no (.var 3)) (.tup (.cons (.bi .list (.cons (.var 4) .nil)) .nil))) (.slc (.var 2) (.bin .add (.var 3) (.int 1)) .no)) (.cons (.bin .add (.var 2) (.tup (.cons .non .nil))) (.cons .non (.cons (.str "sum") (.cons (.tup (.cons (.int 1) (.cons (.int 2) .nil))) .nil)))))))))
  (.sCons (.set 7 (.bin .add (.var 7) (.lst (.cons (.bin .add (.slc (.var 2) .no (.var 3)) (.slc (.var 2) (.bin .add (.var 3) (.int 1)) .no)) (.cons (.bin .add (.var 2) (.tup (.cons (.tup (.cons (.int 0) (.cons (.int 0) .nil))) .nil))) (.cons (.bin .add (.var 2) (.bin .mul (.tup (.cons (.tup .nil) .nil)) (.bin .sub (.int 81) (.bi .len (.cons (.var 2) .nil))))) (.cons (.rv1 (.var 2)) .nil)))))))
  (.sCons (.ret (.bin .add (.var 7) (.lst (.cons (.bin .add (.var 2) (.tup (.cons (.bin .mul (.tup (.cons (.int 0) .nil)) (.int 80)) .nil))) (.cons (.bin .add (.var 2) (.tup (.cons (.bin .mul (.tup (.cons (.int 0) .nil)) (.int 81)) .nil))) (.cons (.bin .add (.var 2) (.bin .mul (.tup (.cons (.tup .nil) .nil)) (.bin .sub (.int 80) (.bi .len (.cons (.var 2) .nil))))) .nil))))))
  .sNil))))))))
def e__law_odd : Ent := ⟨topS 48, "_law_odd", ["_law_tape_here", "_law_m", "_law_table_here"], ["_law_tape_here", "_law_m", "_law_table_here", "_law_at", "_law_row", "_law_spot", "_law_odd_here", "_law_some", "_law_one"], [true, false, false], ⟨9, c__law_odd⟩⟩
def c_law : C :=
  (.sCons (.set 1 (.call "_law_tape" (.cons (.var 0) .nil)))
  (.sCons (.forS (.tN 2) (.iR1 (.int 3)) (.sCons (.set 3 (.call "_law_number" (.cons (.var 1) (.cons (.int 4) .nil))))
  (.sCons (.par 9 10 (.call "_law_draw" (.cons (.var 1) (.cons (.int 9) .nil))) (.call "_law_draw" (.cons (.var 1) (.cons (.int 9) .nil))))
  (.sCons (.ifS (.cmp .ne (.bi .repr (.cons (.call "top2" (.cons (.var 3) (.cons (.var 9) (.cons (.var 10) .nil)))) .nil)) (.bi .repr (.cons (.call "_law_top" (.cons (.var 3) (.cons (.var 9) (.cons (.var 10) .nil)))) .nil))) (.sCons (.ret (.bl false))
  .sNil) .sNil)
  (.sCons (.set 4 (.call "_law_table" (.cons (.var 1) (.cons (.var 3) .nil))))
  (.sCons (.set 5 (.call "_law_of_table" (.cons (.var 3) (.cons (.var 4) .nil))))
  (.sCons (.set 6 (.call "_law_add" (.cons (.var 3) (.cons (.var 5) (.cons (.call "_law_any" (.cons (.var 1) (.cons (.var 3) (.cons (.int 4) .nil)))) (.cons (.int 1) .nil))))))
  (.sCons (.set 7 (.lst (.cons (.tup (.cons (.var 5) (.cons (.var 4) .nil))) (.cons (.tup (.cons (.var 6) (.cons (.var 4) .nil))) (.cons (.tup (.cons (.var 5) (.cons (.call "_law_table" (.cons (.var 1) (.cons (.var 3) .nil))) .nil))) (.cons (.tup (.cons (.tup .nil) (.cons (.var 4) .nil))) (.cons (.tup (.cons (.var 6) (.cons (.tup .nil) .nil))) (.cons (.tup (.cons (.tup .nil) (.cons (.tup .nil) .nil))) .nil))))))))
  (.sCons (.forS (.tN 8) (.iE (.call "_law_odd" (.cons (.var 1) (.cons (.var 3) (.cons (.var 4) .nil))))) (.sCons (.app 7 (.tup (.cons (.var 5) (.cons (.var 8) .nil))))
  .sNil))
  (.sCons (.forS (.tT (.cons (.tN 11) (.cons (.tN 8) .nil))) (.iE (.var 7)) (.sCons (.set 12 (.bi .repr (.cons (.tup (.cons (.var 11) (.cons (.var 8) .nil))) .nil)))
  (.sCons (.ifS (.or (.cmp .ne (.bi .repr (.cons (.call "_law_told" (.cons (.var 3) (.cons (.var 11) (.cons (.var 8) .nil)))) .nil)) (.bi .repr (.cons (.call "_law_null_due" (.cons (.var 3) (.cons (.var 11) (.cons (.var 8) .nil)))) .nil))) (.cmp .ne (.bi .repr (.cons (.tup (.cons (.var 11) (.cons (.var 8) .nil))) .nil)) (.var 12))) (.sCons (.ret (.bl false))
  .sNil) .sNil)
  .sNil)))
  .sNil))))))))))
  (.sCons (.ret (.bl true))
  .sNil)))
def e_law : Ent := ⟨topS 49, "law", ["_law_script"], ["_law_script", "_law_tape_here", "_law_turn", "_law_m", "_law_table_here", "_law_kp", "_law_other", "_law_pairs", "_law_thing", "_law_i", "_law_j", "_law_one", "_law_kept"], [false], ⟨13, c_law⟩⟩
def tab : List Ent := [e_common, e_poly, e_coefficient_at, e_plus, e_times, e_is_rest, e_poly2, e_row_of, e_rising_product, e_top2, e_all_neighbours, e_wide_of, e_built, e_is_table, e_row_of_tops, e_lets_null2, e__law_tape, e__law_draw, e__law_number, e__law_trim, e__law_any, e__law_add, e__law_gcd, e__law_top, e__law_unsplit, e__law_sum, e__law_is_rest, e__law_is_grid, e__law_null_due, e__law_told, e__law_table, e__law_of_table, e__law_odd, e_law]
def bl : List Str := ["ValueError", "abs", "all", "bool", "enumerate", "int", "isinstance", "len", "list", "max", "range", "repr", "tuple"]
def globs : List (Str × D) := [("MOST_ROWS", .int 80)]
def exs : List XEnt := [⟨"NoText", initOf (topS 2), ["self", "at"], ["at"]⟩, ⟨"NoPaper", initOf (topS 3), ["self", "word", "number"], ["word", "number"]⟩, ⟨"NoShuffle", initOf (topS 4), ["self", "x", "y"], ["x", "y"]⟩, ⟨"TooMany", initOf (topS 5), ["self", "word"], ["word"]⟩, ⟨"NoLift", initOf (topS 6), ["self", "word"], ["word"]⟩, ⟨"NoRow", initOf (topS 7), ["self", "row"], ["row"]⟩, ⟨"NoName", initOf (topS 8), ["self", "name"], ["name"]⟩]
def rfe : List RfEnt := [⟨"_law_refused", topS 44, "_law_e", "_law_others", ["NoLift", "NoName", "NoRow", "NoShuffle", "NoText", "TooMany"], ⟨"NoPaper", ["word", "number"], "other"⟩⟩]
def rfs : List (Str × Rf) := [("_law_refused", ⟨"NoPaper", ["word", "number"], "other"⟩)]
@[irreducible] def SG : Sig := (progX globs tab exs rfs).sg
@[irreducible] def CL (n : Nat) : Call := evFn (progX globs tab exs rfs) n
theorem CL_eq (n : Nat) : CL n = evFn (progX globs tab exs rfs) n := by unfold CL; rfl
theorem lk_common : SG.modes.lookup ("common" : Str) = some [false, false] := by unfold SG; rfl
theorem un_common (n : Nat) (ss : List Sl) : CL (n + 1) "common" ss = runDef SG (CL n) [false, false] ⟨3, c_common⟩ ss := by unfold CL SG; rfl
theorem lk_poly : SG.modes.lookup ("poly" : Str) = some [false, false] := by unfold SG; rfl
theorem un_poly (n : Nat) (ss : List Sl) : CL (n + 1) "poly" ss = runDef SG (CL n) [false, false] ⟨4, c_poly⟩ ss := by unfold CL SG; rfl
theorem lk_coefficient_at : SG.modes.lookup ("coefficient_at" : Str) = some [false, false] := by unfold SG; rfl
theorem un_coefficient_at (n : Nat) (ss : List Sl) : CL (n + 1) "coefficient_at" ss = runDef SG (CL n) [false, false] ⟨2, c_coefficient_at⟩ ss := by unfold CL SG; rfl
theorem lk_plus : SG.modes.lookup ("plus" : Str) = some [false, false, false] := by unfold SG; rfl
theorem un_plus (n : Nat) (ss : List Sl) : CL (n + 1) "plus" ss = runDef SG (CL n) [false, false, false] ⟨4, c_plus⟩ ss := by unfold CL SG; rfl
theorem lk_times : SG.modes.lookup ("times" : Str) = some [false, false, false] := by unfold SG; rfl
theorem un_times (n : Nat) (ss : List Sl) : CL (n + 1) "times" ss = runDef SG (CL n) [false, false, false] ⟨6, c_times⟩ ss := by unfold CL SG; rfl
theorem lk_is_rest : SG.modes.lookup ("is_rest" : Str) = some [false, false] := by unfold SG; rfl
theorem un_is_rest (n : Nat) (ss : List Sl) : CL (n + 1) "is_rest" ss = runDef SG (CL n) [false, false] ⟨2, c_is_rest⟩ ss := by unfold CL SG; rfl
theorem lk_poly2 : SG.modes.lookup ("poly2" : Str) = some [false, false] := by unfold SG; rfl
theorem un_poly2 (n : Nat) (ss : List Sl) : CL (n + 1) "poly2" ss = runDef SG (CL n) [false, false] ⟨4, c_poly2⟩ ss := by unfold CL SG; rfl
theorem lk_row_of : SG.modes.lookup ("row_of" : Str) = some [false, false] := by unfold SG; rfl
theorem un_row_of (n : Nat) (ss : List Sl) : CL (n + 1) "row_of" ss = runDef SG (CL n) [false, false] ⟨2, c_row_of⟩ ss := by unfold CL SG; rfl
theorem lk_rising_product : SG.modes.lookup ("rising_product" : Str) = some [false] := by unfold SG; rfl
theorem un_rising_product (n : Nat) (ss : List Sl) : CL (n + 1) "rising_product" ss = runDef SG (CL n) [false] ⟨3, c_rising_product⟩ ss := by unfold CL SG; rfl
theorem lk_top2 : SG.modes.lookup ("top2" : Str) = some [false, false, false] := by unfold SG; rfl
theorem un_top2 (n : Nat) (ss : List Sl) : CL (n + 1) "top2" ss = runDef SG (CL n) [false, false, false] ⟨3, c_top2⟩ ss := by unfold CL SG; rfl
theorem lk_all_neighbours : SG.modes.lookup ("all_neighbours" : Str) = some [false, false] := by unfold SG; rfl
theorem un_all_neighbours (n : Nat) (ss : List Sl) : CL (n + 1) "all_neighbours" ss = runDef SG (CL n) [false, false] ⟨5, c_all_neighbours⟩ ss := by unfold CL SG; rfl
theorem lk_wide_of : SG.modes.lookup ("wide_of" : Str) = some [false] := by unfold SG; rfl
theorem un_wide_of (n : Nat) (ss : List Sl) : CL (n + 1) "wide_of" ss = runDef SG (CL n) [false] ⟨2, c_wide_of⟩ ss := by unfold CL SG; rfl
theorem lk_built : SG.modes.lookup ("built" : Str) = some [false, false] := by unfold SG; rfl
theorem un_built (n : Nat) (ss : List Sl) : CL (n + 1) "built" ss = runDef SG (CL n) [false, false] ⟨10, c_built⟩ ss := by unfold CL SG; rfl
theorem lk_is_table : SG.modes.lookup ("is_table" : Str) = some [false, false] := by unfold SG; rfl
theorem un_is_table (n : Nat) (ss : List Sl) : CL (n + 1) "is_table" ss = runDef SG (CL n) [false, false] ⟨4, c_is_table⟩ ss := by unfold CL SG; rfl
theorem lk_row_of_tops : SG.modes.lookup ("row_of_tops" : Str) = some [false, false, false] := by unfold SG; rfl
theorem un_row_of_tops (n : Nat) (ss : List Sl) : CL (n + 1) "row_of_tops" ss = runDef SG (CL n) [false, false, false] ⟨5, c_row_of_tops⟩ ss := by unfold CL SG; rfl
theorem lk_lets_null2 : SG.modes.lookup ("lets_null2" : Str) = some [false, false, false] := by unfold SG; rfl
theorem un_lets_null2 (n : Nat) (ss : List Sl) : CL (n + 1) "lets_null2" ss = runDef SG (CL n) [false, false, false] ⟨5, c_lets_null2⟩ ss := by unfold CL SG; rfl
theorem lk__law_tape : SG.modes.lookup ("_law_tape" : Str) = some [false] := by unfold SG; rfl
theorem un__law_tape (n : Nat) (ss : List Sl) : CL (n + 1) "_law_tape" ss = runDef SG (CL n) [false] ⟨1, c__law_tape⟩ ss := by unfold CL SG; rfl
theorem lk__law_draw : SG.modes.lookup ("_law_draw" : Str) = some [true, false] := by unfold SG; rfl
theorem un__law_draw (n : Nat) (ss : List Sl) : CL (n + 1) "_law_draw" ss = runDef SG (CL n) [true, false] ⟨6, c__law_draw⟩ ss := by unfold CL SG; rfl
theorem lk__law_number : SG.modes.lookup ("_law_number" : Str) = some [true, false] := by unfold SG; rfl
theorem un__law_number (n : Nat) (ss : List Sl) : CL (n + 1) "_law_number" ss = runDef SG (CL n) [true, false] ⟨2, c__law_number⟩ ss := by unfold CL SG; rfl
theorem lk__law_trim : SG.modes.lookup ("_law_trim" : Str) = some [false, false] := by unfold SG; rfl
theorem un__law_trim (n : Nat) (ss : List Sl) : CL (n + 1) "_law_trim" ss = runDef SG (CL n) [false, false] ⟨6, c__law_trim⟩ ss := by unfold CL SG; rfl
theorem lk__law_any : SG.modes.lookup ("_law_any" : Str) = some [true, false, false] := by unfold SG; rfl
theorem un__law_any (n : Nat) (ss : List Sl) : CL (n + 1) "_law_any" ss = runDef SG (CL n) [true, false, false] ⟨6, c__law_any⟩ ss := by unfold CL SG; rfl
theorem lk__law_add : SG.modes.lookup ("_law_add" : Str) = some [false, false, false, false] := by unfold SG; rfl
theorem un__law_add (n : Nat) (ss : List Sl) : CL (n + 1) "_law_add" ss = runDef SG (CL n) [false, false, false, false] ⟨10, c__law_add⟩ ss := by unfold CL SG; rfl
theorem lk__law_gcd : SG.modes.lookup ("_law_gcd" : Str) = some [false, false] := by unfold SG; rfl
theorem un__law_gcd (n : Nat) (ss : List Sl) : CL (n + 1) "_law_gcd" ss = runDef SG (CL n) [false, false] ⟨2, c__law_gcd⟩ ss := by unfold CL SG; rfl
theorem lk__law_top : SG.modes.lookup ("_law_top" : Str) = some [false, false, false] := by unfold SG; rfl
theorem un__law_top (n : Nat) (ss : List Sl) : CL (n + 1) "_law_top" ss = runDef SG (CL n) [false, false, false] ⟨5, c__law_top⟩ ss := by unfold CL SG; rfl
theorem lk__law_unsplit : SG.modes.lookup ("_law_unsplit" : Str) = some [false, false] := by unfold SG; rfl
theorem un__law_unsplit (n : Nat) (ss : List Sl) : CL (n + 1) "_law_unsplit" ss = runDef SG (CL n) [false, false] ⟨5, c__law_unsplit⟩ ss := by unfold CL SG; rfl
theorem lk__law_sum : SG.modes.lookup ("_law_sum" : Str) = some [false, false] := by unfold SG; rfl
theorem un__law_sum (n : Nat) (ss : List Sl) : CL (n + 1) "_law_sum" ss = runDef SG (CL n) [false, false] ⟨9, c__law_sum⟩ ss := by unfold CL SG; rfl
theorem lk__law_is_rest : SG.modes.lookup ("_law_is_rest" : Str) = some [false, false] := by unfold SG; rfl
theorem un__law_is_rest (n : Nat) (ss : List Sl) : CL (n + 1) "_law_is_rest" ss = runDef SG (CL n) [false, false] ⟨2, c__law_is_rest⟩ ss := by unfold CL SG; rfl
theorem lk__law_is_grid : SG.modes.lookup ("_law_is_grid" : Str) = some [false, false] := by unfold SG; rfl
theorem un__law_is_grid (n : Nat) (ss : List Sl) : CL (n + 1) "_law_is_grid" ss = runDef SG (CL n) [false, false] ⟨4, c__law_is_grid⟩ ss := by unfold CL SG; rfl
theorem lk__law_null_due : SG.modes.lookup ("_law_null_due" : Str) = some [false, false, false] := by unfold SG; rfl
theorem un__law_null_due (n : Nat) (ss : List Sl) : CL (n + 1) "_law_null_due" ss = runDef SG (CL n) [false, false, false] ⟨9, c__law_null_due⟩ ss := by unfold CL SG; rfl
theorem lk__law_told : SG.modes.lookup ("_law_told" : Str) = some [false, false, false] := by unfold SG; rfl
theorem un__law_told (n : Nat) (ss : List Sl) : CL (n + 1) "_law_told" ss = runDef SG (CL n) [false, false, false] ⟨5, c__law_told⟩ ss := by unfold CL SG; rfl
theorem lk__law_table : SG.modes.lookup ("_law_table" : Str) = some [true, false] := by unfold SG; rfl
theorem un__law_table (n : Nat) (ss : List Sl) : CL (n + 1) "_law_table" ss = runDef SG (CL n) [true, false] ⟨5, c__law_table⟩ ss := by unfold CL SG; rfl
theorem lk__law_of_table : SG.modes.lookup ("_law_of_table" : Str) = some [false, false] := by unfold SG; rfl
theorem un__law_of_table (n : Nat) (ss : List Sl) : CL (n + 1) "_law_of_table" ss = runDef SG (CL n) [false, false] ⟨5, c__law_of_table⟩ ss := by unfold CL SG; rfl
theorem lk__law_odd : SG.modes.lookup ("_law_odd" : Str) = some [true, false, false] := by unfold SG; rfl
theorem un__law_odd (n : Nat) (ss : List Sl) : CL (n + 1) "_law_odd" ss = runDef SG (CL n) [true, false, false] ⟨9, c__law_odd⟩ ss := by unfold CL SG; rfl
theorem lk_law : SG.modes.lookup ("law" : Str) = some [false] := by unfold SG; rfl
theorem un_law (n : Nat) (ss : List Sl) : CL (n + 1) "law" ss = runDef SG (CL n) [false] ⟨13, c_law⟩ ss := by unfold CL SG; rfl
theorem gl_MOST_ROWS : SG.globs.lookup ("MOST_ROWS" : Str) = some (.int 80 : D) := by unfold SG; rfl
theorem ex_SG : SG.excs = excsOf exs := by unfold SG; rfl
end K
end Ev
end
section
namespace Ev
def sumN : Nat → (Nat → Int) → Int
  | 0, _ => 0
  | n + 1, f => sumN n f + f n
theorem sumN_congr {f g : Nat → Int} : ∀ {n : Nat}, (∀ i, i < n → f i = g i) → sumN n f = sumN n g
  | 0, _ => rfl
  | n + 1, h => by
    show sumN n f + f n = sumN n g + g n
    rw [sumN_congr (n := n) fun i hi => h i (by omega), h n (by omega)]
theorem sumN_add (f g : Nat → Int) : ∀ n : Nat, sumN n (fun i => f i + g i) = sumN n f + sumN n g
  | 0 => rfl
  | n + 1 => by
    show sumN n (fun i => f i + g i) + (f n + g n) = (sumN n f + f n) + (sumN n g + g n)
    rw [sumN_add f g n]
    omega
theorem sumN_mul (c : Int) (f : Nat → Int) : ∀ n : Nat, sumN n (fun i => c * f i) = c * sumN n f
  | 0 => (Int.mul_zero c).symm
  | n + 1 => by
    show sumN n (fun i => c * f i) + c * f n = c * (sumN n f + f n)
    rw [sumN_mul c f n, Int.mul_add]
theorem sumN_zero {f : Nat → Int} {n : Nat} (h : ∀ i, i < n → f i = 0) : sumN n f = 0 := by
  induction n with
  | zero => rfl
  | succ n ih =>
    show sumN n f + f n = 0
    rw [ih fun i hi => h i (by omega), h n (by omega)]
    rfl
theorem sumN_one {f : Nat → Int} {n k : Nat} (hk : k < n) (h : ∀ i, i < n → i ≠ k → f i = 0) : sumN n f = f k := by
  induction n with
  | zero => omega
  | succ n ih =>
    show sumN n f + f n = f k
    by_cases e : n = k
    · subst e
      rw [sumN_zero fun i hi => h i (by omega) (by omega)]
      omega
    · rw [ih (by omega) fun i hi => h i (by omega), h n (by omega) e]
      omega
theorem sumN_comm (f : Nat → Nat → Int) (m : Nat) : ∀ n : Nat, sumN n (fun i => sumN m (f i)) = sumN m (fun j => sumN n fun i => f i j)
  | 0 => (sumN_zero fun _ _ => rfl).symm
  | n + 1 => by
    show sumN n (fun i => sumN m (f i)) + sumN m (f n) = sumN m (fun j => sumN n (fun i => f i j) + f n j)
    rw [sumN_comm f m n, sumN_add]
theorem sumN_more {f : Nat → Int} {n k : Nat} (hk : n ≤ k) (h : ∀ i, n ≤ i → f i = 0) : sumN k f = sumN n f := by
  induction k with
  | zero => rw [Nat.le_zero.mp hk]
  | succ k ih =>
    by_cases e : n = k + 1
    · rw [e]
    · show sumN k f + f k = _
      rw [ih (by omega), h k (by omega)]
      omega
theorem sumN_succ (f : Nat → Int) : ∀ n : Nat, sumN (n + 1) f = f 0 + sumN n fun i => f (i + 1)
  | 0 => by show 0 + f 0 = f 0 + 0; omega
  | n + 1 => by
    show sumN (n + 1) f + f (n + 1) = f 0 + (sumN n (fun i => f (i + 1)) + f (n + 1))
    rw [sumN_succ f n]
    omega
theorem sum_range (f : Nat → Int) : ∀ n : Nat, ((List.range n).map f).sum = sumN n f
  | 0 => rfl
  | n + 1 => by
    rw [List.range_succ, List.map_append, List.sum_append, sum_range f n]
    show sumN n f + (f n + 0) = sumN n f + f n
    omega
def Cg (m a b : Int) : Prop := m ∣ a - b
theorem Cg.refl (m a : Int) : Cg m a a := ⟨0, by omega⟩
theorem Cg.of_eq {m a b : Int} (h : a = b) : Cg m a b := h ▸ Cg.refl m a
theorem Cg.symm {m a b : Int} : Cg m a b → Cg m b a
  | ⟨k, h⟩ => ⟨-k, by rw [Int.mul_neg]; omega⟩
theorem Cg.trans {m a b c : Int} : Cg m a b → Cg m b c → Cg m a c
  | ⟨k, h⟩, ⟨l, h2⟩ => ⟨k + l, by rw [Int.mul_add]; omega⟩
theorem Cg.add {m a b c d : Int} : Cg m a b → Cg m c d → Cg m (a + c) (b + d)
  | ⟨k, h⟩, ⟨l, h2⟩ => ⟨k + l, by rw [Int.mul_add]; omega⟩
theorem Cg.sub {m a b c d : Int} : Cg m a b → Cg m c d → Cg m (a - c) (b - d)
  | ⟨k, h⟩, ⟨l, h2⟩ => ⟨k - l, by rw [Int.mul_sub]; omega⟩
theorem Cg.mul {m a b c d : Int} : Cg m a b → Cg m c d → Cg m (a * c) (b * d)
  | ⟨k, h⟩, ⟨l, h2⟩ => ⟨k * c + b * l, by grind⟩
theorem Cg.fmod (m a : Int) : Cg m (a.fmod m) a := ⟨-(a.fdiv m), by
  have := Int.mul_fdiv_add_fmod a m
  rw [Int.mul_neg]
  omega⟩
theorem Cg.eq {m a b : Int} (hm : 0 < m) (h : Cg m a b) : a.fmod m = b.fmod m := by
  obtain ⟨k, h⟩ := h
  have e : a = b + m * k := by omega
  rw [e]
  simp [Int.fmod_eq_emod_of_nonneg _ (Int.le_of_lt hm)]
theorem Cg.of_fmod {m a b : Int} (h : a.fmod m = b.fmod m) : Cg m a b := (Cg.fmod m a).symm.trans (h ▸ Cg.fmod m b)
theorem Cg.iff {m a b : Int} (hm : 0 < m) : Cg m a b ↔ a.fmod m = b.fmod m := ⟨Cg.eq hm, Cg.of_fmod⟩
theorem Cg.sum {m : Int} {f g : Nat → Int} {n : Nat} (h : ∀ i, i < n → Cg m (f i) (g i)) : Cg m (sumN n f) (sumN n g) := by
  induction n with
  | zero => exact Cg.refl _ _
  | succ n ih => exact (ih fun i hi => h i (by omega)).add (h n (by omega))
theorem Cg.zero_fmod {m : Int} : Cg m (0 : Int) 0 := Cg.refl _ _
theorem fmod_small {m a : Int} (h0 : 0 ≤ a) (h1 : a < m) : a.fmod m = a := by
  rw [Int.fmod_eq_emod_of_nonneg _ (by omega)]
  exact Int.emod_eq_of_lt h0 h1
abbrev co (L : List Int) (j : Nat) : Int := L.getD j 0
theorem co_nil (j : Nat) : co [] j = 0 := by simp [co]
theorem co_zero (a : Int) (L : List Int) : co (a :: L) 0 = a := rfl
theorem co_succ (a : Int) (L : List Int) (j : Nat) : co (a :: L) (j + 1) = co L j := rfl
theorem co_ge {L : List Int} {j : Nat} (h : L.length ≤ j) : co L j = 0 := by simp [co, List.getElem?_eq_none h]
theorem co_map {L : List Int} (f : Int → Int) (h0 : f 0 = 0) (j : Nat) : co (L.map f) j = f (co L j) := by
  by_cases h : j < L.length
  · simp [co, h]
  · rw [co_ge (by simpa using Nat.le_of_not_lt h), co_ge (Nat.le_of_not_lt h), h0]
theorem co_mem {L : List Int} {j : Nat} (h : co L j ≠ 0) : co L j ∈ L := by
  by_cases hj : j < L.length
  · have e : co L j = L[j] := by simp [co, hj]
    rw [e]
    exact List.getElem_mem hj
  · exact absurd (co_ge (Nat.le_of_not_lt hj)) h
theorem trimI_cons (a : Int) (L : List Int) : trimI (a :: L) = match trimI L with | [] => if a = 0 then [] else [a] | r => a :: r := rfl
theorem trimI_co : ∀ (L : List Int) (j : Nat), co (trimI L) j = co L j
  | [], j => rfl
  | a :: L, j => by
    have ih := trimI_co L
    rw [trimI_cons]
    cases h : trimI L with
    | nil =>
      rw [h] at ih
      by_cases ha : a = 0
      · cases j with
        | zero => simp [ha, co]
        | succ j => simp only [ha, if_true]; rw [co_succ, ← ih j]; simp [co]
      · cases j with
        | zero => simp [ha, co]
        | succ j => simp only [ha, if_false]; rw [co_succ, co_succ, ← ih j]
    | cons b r =>
      rw [h] at ih
      cases j with
      | zero => rfl
      | succ j =>
        show co (b :: r) j = _
        rw [ih j, co_succ]
theorem trimI_zero : ∀ {L : List Int}, (∀ j, co L j = 0) → trimI L = []
  | [], _ => rfl
  | a :: L, h => by
    rw [trimI_cons, trimI_zero (L := L) fun j => h (j + 1)]
    have : a = 0 := h 0
    simp [this]
theorem trimI_ext : ∀ {A B : List Int}, (∀ j, co A j = co B j) → trimI A = trimI B
  | [], B, h => by rw [trimI_zero (L := B) fun j => by rw [← h j]; exact co_nil j]; rfl
  | a :: A, [], h => by rw [trimI_zero (L := a :: A) fun j => by rw [h j]; exact co_nil j]; rfl
  | a :: A, b :: B, h => by
    have h0 : a = b := h 0
    rw [trimI_cons, trimI_cons, trimI_ext (A := A) (B := B) fun j => h (j + 1), h0]
theorem trimI_idem (L : List Int) : trimI (trimI L) = trimI L := trimI_ext (trimI_co L)
theorem redI_co (m : Int) (L : List Int) (j : Nat) : co (redI m L) j = (co L j).fmod m := by
  unfold redI
  rw [trimI_co, co_map _ (by simp)]
theorem redI_cg (m : Int) (L : List Int) (j : Nat) : Cg m (co (redI m L) j) (co L j) := by
  rw [redI_co]
  exact Cg.fmod _ _
theorem redI_ext {m : Int} (hm : 0 < m) {A B : List Int} (h : ∀ j, Cg m (co A j) (co B j)) : redI m A = redI m B := trimI_ext fun j => by
  rw [co_map _ (by simp), co_map _ (by simp)]
  exact (h j).eq hm
/-- a row as it is kept: rests, no nought at the end -/
def Red (m : Int) (L : List Int) : Prop := redI m L = L
theorem redI_red {m : Int} (hm : 0 < m) (L : List Int) : Red m (redI m L) := redI_ext hm (redI_cg m L)
theorem Red.nil (m : Int) : Red m [] := rfl
theorem Red.co {m : Int} {L : List Int} (h : Red m L) (j : Nat) : (co L j).fmod m = Ev.co L j := by
  rw [← redI_co, h]
theorem Red.ext {m : Int} (hm : 0 < m) {A B : List Int} (ha : Red m A) (hb : Red m B) (h : ∀ j, Cg m (Ev.co A j) (Ev.co B j)) : A = B := by
  rw [← ha, ← hb]
  exact redI_ext hm h
theorem Red.bd {m : Int} (hm : 0 < m) {L : List Int} (h : Red m L) (j : Nat) : 0 ≤ Ev.co L j ∧ Ev.co L j < m := by
  rw [← h.co j]
  exact ⟨Int.fmod_nonneg_of_pos _ hm, Int.fmod_lt_of_pos _ hm⟩
abbrev ro (A : List (List Int)) (i : Nat) : List Int := A.getD i []
abbrev co2 (A : List (List Int)) (i j : Nat) : Int := co (ro A i) j
theorem ro_nil (i : Nat) : ro [] i = [] := by simp [ro]
theorem ro_ge {A : List (List Int)} {i : Nat} (h : A.length ≤ i) : ro A i = [] := by simp [ro, List.getElem?_eq_none h]
theorem ro_map {A : List (List Int)} (f : List Int → List Int) (h0 : f [] = []) (i : Nat) : ro (A.map f) i = f (ro A i) := by
  by_cases h : i < A.length
  · simp [ro, h]
  · rw [ro_ge (by simpa using Nat.le_of_not_lt h), ro_ge (Nat.le_of_not_lt h), h0]
theorem ro_mem {A : List (List Int)} {i : Nat} (h : ro A i ≠ []) : ro A i ∈ A := by
  by_cases hj : i < A.length
  · have e : ro A i = A[i] := by simp [ro, hj]
    rw [e]
    exact List.getElem_mem hj
  · exact absurd (ro_ge (Nat.le_of_not_lt hj)) h
theorem trimE_cons (a : List Int) (L : List (List Int)) : trimE (a :: L) = match trimE L with | [] => if a = [] then [] else [a] | r => a :: r := rfl
theorem trimE_ro : ∀ (L : List (List Int)) (j : Nat), ro (trimE L) j = ro L j
  | [], j => rfl
  | a :: L, j => by
    have ih := trimE_ro L
    rw [trimE_cons]
    cases h : trimE L with
    | nil =>
      rw [h] at ih
      by_cases ha : a = []
      · cases j with
        | zero => simp [ha, ro]
        | succ j => simp only [ha, if_true]; show ro [] (j + 1) = ro L j; rw [← ih j]; simp [ro]
      · cases j with
        | zero => simp [ha, ro]
        | succ j => simp only [ha, if_false]; show ro [] j = ro L j; rw [← ih j]
    | cons b r =>
      rw [h] at ih
      cases j with
      | zero => rfl
      | succ j => exact ih j
theorem trimE_nil : ∀ {L : List (List Int)}, (∀ j, ro L j = []) → trimE L = []
  | [], _ => rfl
  | a :: L, h => by
    rw [trimE_cons, trimE_nil (L := L) fun j => h (j + 1)]
    have : a = [] := h 0
    simp [this]
theorem trimE_ext : ∀ {A B : List (List Int)}, (∀ j, ro A j = ro B j) → trimE A = trimE B
  | [], B, h => by rw [trimE_nil (L := B) fun j => by rw [← h j]; exact ro_nil j]; rfl
  | a :: A, [], h => by rw [trimE_nil (L := a :: A) fun j => by rw [h j]; exact ro_nil j]; rfl
  | a :: A, b :: B, h => by
    have h0 : a = b := h 0
    rw [trimE_cons, trimE_cons, trimE_ext (A := A) (B := B) fun j => h (j + 1), h0]
/-- rows as they are kept -/
def trim2 (m : Int) (A : List (List Int)) : List (List Int) := trimE (A.map (redI m))
theorem trim2_ro (m : Int) (A : List (List Int)) (i : Nat) : ro (trim2 m A) i = redI m (ro A i) := by
  unfold trim2
  rw [trimE_ro, ro_map _ rfl]
theorem trim2_co (m : Int) (A : List (List Int)) (i j : Nat) : co2 (trim2 m A) i j = (co2 A i j).fmod m := by
  unfold co2
  rw [trim2_ro, redI_co]
theorem trim2_cg (m : Int) (A : List (List Int)) (i j : Nat) : Cg m (co2 (trim2 m A) i j) (co2 A i j) := by
  rw [trim2_co]
  exact Cg.fmod _ _
theorem trim2_ext {m : Int} (hm : 0 < m) {A B : List (List Int)} (h : ∀ i j, Cg m (co2 A i j) (co2 B i j)) : trim2 m A = trim2 m B := trimE_ext fun i => by
  rw [ro_map _ rfl, ro_map _ rfl]
  exact redI_ext hm (h i)
def Red2 (m : Int) (A : List (List Int)) : Prop := trim2 m A = A
theorem trim2_red {m : Int} (hm : 0 < m) (A : List (List Int)) : Red2 m (trim2 m A) := trim2_ext hm (trim2_cg m A)
theorem Red2.ext {m : Int} (hm : 0 < m) {A B : List (List Int)} (ha : Red2 m A) (hb : Red2 m B) (h : ∀ i j, Cg m (co2 A i j) (co2 B i j)) : A = B := by
  rw [← ha, ← hb]
  exact trim2_ext hm h
theorem Red2.ro {m : Int} {A : List (List Int)} (h : Red2 m A) (i : Nat) : Red m (Ev.ro A i) := by
  show redI m (Ev.ro A i) = Ev.ro A i
  rw [← trim2_ro, h]
theorem Red2.row {m : Int} {A : List (List Int)} (h : Red2 m A) {r : List Int} (hr : r ∈ A) : Red m r := by
  obtain ⟨i, hi, rfl⟩ := List.getElem_of_mem hr
  have := h.ro i
  simpa [Ev.ro, hi] using this
theorem Red2.bd {m : Int} (hm : 0 < m) {A : List (List Int)} (h : Red2 m A) (i j : Nat) : 0 ≤ co2 A i j ∧ co2 A i j < m := (h.ro i).bd hm j
theorem trimE_len : ∀ A : List (List Int), (trimE A).length ≤ A.length
  | [] => Nat.le_refl _
  | a :: A => by
    have ih := trimE_len A
    rw [trimE_cons]
    cases h : trimE A with
    | nil => by_cases ha : a = [] <;> simp [ha]
    | cons b r =>
      rw [h] at ih
      simp at ih ⊢
      omega
theorem trimE_mem : ∀ (A : List (List Int)) (r : List Int), r ∈ trimE A → r ∈ A
  | [], r, h => h
  | a :: A, r, h => by
    have ih := trimE_mem A
    rw [trimE_cons] at h
    cases e : trimE A with
    | nil =>
      rw [e] at h
      by_cases ha : a = []
      · simp [ha] at h
      · simp [ha] at h
        simp [h]
    | cons b q =>
      rw [e] at h ih
      rcases List.mem_cons.mp h with z | z
      · simp [z]
      · exact List.mem_cons_of_mem _ (ih r z)
/-- what has no void row at the end is kept -/
theorem trimE_fix : ∀ {A : List (List Int)}, (∀ h : A ≠ [], A.getLast h ≠ []) → trimE A = A
  | [], _ => rfl
  | [a], h => by
    have : a ≠ [] := h (by simp)
    simp [trimE, this]
  | a :: b :: A, h => by
    have ih := trimE_fix (A := b :: A) fun hn => by
      have := h (by simp)
      rwa [List.getLast_cons hn] at this
    rw [trimE_cons, ih]
theorem trimI_fix : ∀ {A : List Int}, (∀ h : A ≠ [], A.getLast h ≠ 0) → trimI A = A
  | [], _ => rfl
  | [a], h => by
    have : a ≠ 0 := h (by simp)
    simp [trimI, this]
  | a :: b :: A, h => by
    have ih := trimI_fix (A := b :: A) fun hn => by
      have := h (by simp)
      rwa [List.getLast_cons hn] at this
    rw [trimI_cons, ih]
/-- .. and the last one is no nought -/
theorem trimI_last : ∀ {A : List Int} (h : trimI A ≠ []), (trimI A).getLast h ≠ 0
  | [], h => absurd rfl h
  | a :: A, h => by
    have ih := trimI_last (A := A)
    have e := trimI_cons a A
    cases q : trimI A with
    | nil =>
      rw [q] at e
      by_cases ha : a = 0
      · simp [ha] at e
        exact absurd (by rw [ha]; exact e) h
      · simp [ha] at e
        simp [e, ha]
    | cons b r =>
      rw [q] at e
      have e2 : trimI (a :: A) = a :: b :: r := e
      simp only [e2]
      rw [List.getLast_cons (by simp)]
      have := ih (by rw [q]; simp)
      simpa [q] using this
theorem Red.last {m : Int} {L : List Int} (h : Red m L) (hn : L ≠ []) : L.getLast hn ≠ 0 := by
  have e : trimI (L.map (·.fmod m)) = L := h
  have hn2 : trimI (L.map (·.fmod m)) ≠ [] := by rw [e]; exact hn
  have := trimI_last (A := L.map (·.fmod m)) hn2
  simpa [e] using this
theorem sum_ge {L : List Int} {f : Nat → Int} {n : Nat} (h : L.length ≤ n) : sumN n (fun i => co L i * f i) = sumN L.length (fun i => co L i * f i) :=
  sumN_more h fun i hi => by rw [co_ge hi, Int.zero_mul]
def evZ (x : Int) (L : List Int) : Int := sumN L.length fun i => co L i * x ^ i
theorem evZ_nil (x : Int) : evZ x [] = 0 := rfl
theorem evZ_cons (x a : Int) (L : List Int) : evZ x (a :: L) = a + x * evZ x L := by
  unfold evZ
  rw [List.length_cons, sumN_succ, ← sumN_mul]
  rw [co_zero, Int.pow_zero, Int.mul_one]
  congr 1
  refine sumN_congr fun i _ => ?_
  rw [co_succ, Int.pow_succ]
  grind
theorem evZ_cg {m x : Int} {A B : List Int} (h : ∀ j, Cg m (co A j) (co B j)) : Cg m (evZ x A) (evZ x B) := by
  have ha : evZ x A = sumN (max A.length B.length) fun i => co A i * x ^ i := (sum_ge (Nat.le_max_left ..)).symm
  have hb : evZ x B = sumN (max A.length B.length) fun i => co B i * x ^ i := (sum_ge (Nat.le_max_right ..)).symm
  rw [ha, hb]
  exact Cg.sum fun i _ => (h i).mul (Cg.refl _ _)
theorem horI_cons (m x a : Int) (L : List Int) : horI m x (a :: L) = (horI m x L * x + a).fmod m := by
  unfold horI
  rw [List.reverse_cons, List.foldl_append]
  rfl
theorem horI_cg (m x : Int) : ∀ L : List Int, Cg m (horI m x L) (evZ x L)
  | [] => Cg.refl _ _
  | a :: L => by
    rw [horI_cons, evZ_cons]
    refine (Cg.fmod _ _).trans ?_
    rw [Int.add_comm, Int.mul_comm]
    exact (Cg.refl _ _).add ((Cg.refl _ _).mul (horI_cg m x L))
theorem pwI_cg (m x : Int) : ∀ k : Nat, Cg m (pwI m x k) (x ^ k)
  | 0 => Cg.of_eq (Int.pow_zero x).symm
  | k + 1 => by
    show Cg m ((pwI m x k * x).fmod m) _
    refine (Cg.fmod _ _).trans ?_
    rw [Int.pow_succ]
    exact (pwI_cg m x k).mul (Cg.refl _ _)
end Ev
end
section
namespace Ev
/-- the coefficient of a product -/
def cv (f g : Nat → Int) (k : Nat) : Int := sumN (k + 1) fun i => f i * g (k - i)
theorem getD_set (L : List Int) (k : Nat) (a : Int) (j : Nat) (h : k < L.length) : co (L.set k a) j = if j = k then a else co L j := by
  by_cases e : j = k
  · subst e
    simp [co, h]
  · have e2 : ¬ k = j := fun z => e z.symm
    simp [co, List.getElem?_set, e, e2]
theorem convS_co {m : Int} {f g L : List Int} {i j : Nat} (h : i + j < L.length) (k : Nat) : Cg m (co (convS m f g L i j) k) (co L k + if k = i + j then co f i * co g j else 0) := by
  unfold convS
  rw [getD_set _ _ _ _ h]
  by_cases e : k = i + j
  · rw [if_pos e, if_pos e, e]
    exact Cg.fmod _ _
  · rw [if_neg e, if_neg e, Int.add_zero]
    exact Cg.refl _ _
theorem convS_ln (m : Int) (f g L : List Int) (i j : Nat) : (convS m f g L i j).length = L.length := by simp [convS]
theorem conv_in {m : Int} {f g : List Int} (i : Nat) : ∀ (n : Nat) (L : List Int), i + n ≤ L.length →
    ((List.range n).foldl (fun L j => convS m f g L i j) L).length = L.length ∧ ∀ k, Cg m (co ((List.range n).foldl (fun L j => convS m f g L i j) L) k) (co L k + sumN n fun j => if k = i + j then co f i * co g j else 0)
  | 0, L, _ => ⟨rfl, fun k => Cg.of_eq (Int.add_zero _).symm⟩
  | n + 1, L, h => by
    obtain ⟨h1, h2⟩ := conv_in (m := m) (f := f) (g := g) i n L (by omega)
    rw [List.range_succ, List.foldl_append]
    refine ⟨by rw [← h1]; exact convS_ln .., fun k => ?_⟩
    refine (convS_co (by rw [h1]; omega) k).trans ?_
    show Cg m _ (co L k + (sumN n _ + _))
    rw [← Int.add_assoc]
    exact (h2 k).add (Cg.refl _ _)
theorem conv_out {m : Int} {f g : List Int} : ∀ (n : Nat) (L : List Int), n + g.length ≤ L.length →
    ((List.range n).foldl (fun L i => (List.range g.length).foldl (fun L j => convS m f g L i j) L) L).length = L.length ∧
    ∀ k, Cg m (co ((List.range n).foldl (fun L i => (List.range g.length).foldl (fun L j => convS m f g L i j) L) L) k) (co L k + sumN n fun i => sumN g.length fun j => if k = i + j then co f i * co g j else 0)
  | 0, L, _ => ⟨rfl, fun k => Cg.of_eq (Int.add_zero _).symm⟩
  | n + 1, L, h => by
    obtain ⟨h1, h2⟩ := conv_out (m := m) (f := f) (g := g) n L (by omega)
    rw [List.range_succ, List.foldl_append]
    have h3 := conv_in (m := m) (f := f) (g := g) n g.length _ (show n + g.length ≤ ((List.range n).foldl (fun L i => (List.range g.length).foldl (fun L j => convS m f g L i j) L) L).length by rw [h1]; omega)
    refine ⟨h3.1.trans h1, fun k => (h3.2 k).trans ?_⟩
    show Cg m _ (co L k + (sumN n _ + _))
    rw [← Int.add_assoc]
    exact (h2 k).add (Cg.refl _ _)
theorem co_rep (n j : Nat) : co (List.replicate n 0) j = 0 := by
  by_cases h : j < n
  · simp [co, h]
  · exact co_ge (by simpa using Nat.le_of_not_lt h)
theorem dbl (f g : List Int) (k : Nat) : (sumN f.length fun i => sumN g.length fun j => if k = i + j then co f i * co g j else 0) = cv (co f) (co g) k := by
  have e : ∀ i, i < f.length → (sumN g.length fun j => if k = i + j then co f i * co g j else 0) = if i < k + 1 then co f i * co g (k - i) else 0 := fun i _ => by
    by_cases h : i < k + 1
    · rw [if_pos h]
      by_cases h2 : k - i < g.length
      · rw [sumN_one h2 fun j _ hj => if_neg (by omega)]
        exact if_pos (by omega)
      · rw [co_ge (Nat.le_of_not_lt h2), Int.mul_zero]
        exact sumN_zero fun j hj => if_neg (by omega)
    · rw [if_neg h]
      exact sumN_zero fun j _ => if_neg (by omega)
  rw [sumN_congr e]
  unfold cv
  have e2 : (sumN (k + 1) fun i => co f i * co g (k - i)) = sumN (k + 1) fun i => if i < k + 1 then co f i * co g (k - i) else 0 := sumN_congr fun i hi => (if_pos hi).symm
  rw [e2]
  rw [← sumN_more (n := f.length) (k := max f.length (k + 1)) (by omega) fun i hi => ?_, ← sumN_more (n := k + 1) (k := max f.length (k + 1)) (by omega) fun i hi => ?_]
  · exact if_neg (by omega)
  · show (if i < k + 1 then co f i * co g (k - i) else 0) = 0
    rw [co_ge hi, Int.zero_mul, ite_self]
theorem conv_co (m : Int) (f g : List Int) (k : Nat) : Cg m (co (conv m f g) k) (cv (co f) (co g) k) := by
  have h := (conv_out (m := m) (f := f) (g := g) f.length (List.replicate (f.length + g.length) 0) (by simp)).2 k
  rw [co_rep, Int.zero_add, dbl] at h
  exact h
theorem cv_cg {m : Int} {f f' g g' : Nat → Int} (hf : ∀ i, Cg m (f i) (f' i)) (hg : ∀ i, Cg m (g i) (g' i)) (k : Nat) : Cg m (cv f g k) (cv f' g' k) := Cg.sum fun i _ => (hf i).mul (hg (k - i))
/-- a product with one number -/
theorem cv_one (f : Nat → Int) (g : Nat → Int) (hg : ∀ j, g (j + 1) = 0) (k : Nat) : cv f g k = f k * g 0 := by
  unfold cv
  rw [sumN_one (k := k) (by omega) fun i hi e => ?_, Nat.sub_self]
  obtain ⟨d, hd⟩ : ∃ d, k - i = d + 1 := ⟨k - i - 1, by omega⟩
  rw [hd, hg, Int.mul_zero]
theorem addI_co (f g : List Int) (j : Nat) : co (K.addI f g) j = co f j + co g j := by
  unfold K.addI
  by_cases h : j < max f.length g.length
  · simp [co, h]
  · rw [co_ge (by simpa using Nat.le_of_not_lt h), co_ge (L := f) (by omega), co_ge (L := g) (by omega)]
    rfl
theorem hxStep_co {m x : Int} (F row : List Int) (j : Nat) : Cg m (co (hxStep m x F row) j) (co row j + x * co F j) := by
  unfold hxStep
  refine (redI_cg m _ j).trans ?_
  rw [addI_co, Int.add_comm]
  refine (Cg.refl _ _).add ?_
  refine (redI_cg m _ j).trans ((conv_co m _ _ j).trans ?_)
  refine (cv_cg (fun i => Cg.refl _ _) (g' := co [x]) (fun i => redI_cg m [x] i) j).trans ?_
  rw [cv_one _ _ (fun j => by simp [co]), Int.mul_comm]
  exact Cg.refl _ _
theorem hxI_co {m x : Int} (j : Nat) : ∀ rows : List (List Int), Cg m (co (hxI m x rows) j) (evZ x (rows.map fun r => co r j))
  | [] => Cg.refl _ _
  | r :: rows => by
    have e : hxI m x (r :: rows) = hxStep m x (hxI m x rows) r := by
      unfold hxI
      rw [List.reverse_cons, List.foldl_append]
      rfl
    rw [e, List.map_cons, evZ_cons]
    exact (hxStep_co _ _ j).trans ((Cg.refl _ _).add ((Cg.refl _ _).mul (hxI_co j rows)))
theorem hxI_red {m x : Int} (hm : 0 < m) (rows : List (List Int)) : Red m (hxI m x rows) := by
  cases rows with
  | nil => rfl
  | cons r rows =>
    have e : hxI m x (r :: rows) = hxStep m x (hxI m x rows) r := by
      unfold hxI
      rw [List.reverse_cons, List.foldl_append]
      rfl
    rw [e]
    exact redI_red hm _
end Ev
end
section
namespace Ev
structure Cell where
  i : Nat
  j : Nat
  a : Int
def rowCells (i : Nat) (r : List Int) : List Cell := (List.range r.length).map fun j => ⟨i, j, co r j⟩
def cells (A : List (List Int)) : List Cell := (List.range A.length).flatMap fun i => rowCells i (ro A i)
theorem mem_cells {A : List (List Int)} {c : Cell} : c ∈ cells A ↔ c.i < A.length ∧ c.j < (ro A c.i).length ∧ c.a = co2 A c.i c.j := by
  unfold cells rowCells
  simp only [List.mem_flatMap, List.mem_range, List.mem_map]
  constructor
  · rintro ⟨i, hi, j, hj, rfl⟩
    exact ⟨hi, hj, rfl⟩
  · rintro ⟨h1, h2, h3⟩
    refine ⟨c.i, h1, c.j, h2, ?_⟩
    cases c
    simp only at h3
    subst h3
    rfl
/-- the cells written into a table -/
def put (T : List (List Int)) (c : Cell) : List (List Int) := T.set c.i ((ro T c.i).set c.j c.a)
def Wide9 (T : List (List Int)) : Prop := T.length = 9 ∧ ∀ r ∈ T, r.length = 9
theorem Wide9.ro {T : List (List Int)} (h : Wide9 T) {i : Nat} (hi : i < 9) : (Ev.ro T i).length = 9 := by
  have hi2 : i < T.length := by rw [h.1]; exact hi
  have e : Ev.ro T i = T[i] := by simp [Ev.ro, hi2]
  rw [e]
  exact h.2 _ (List.getElem_mem hi2)
theorem put_wide {T : List (List Int)} {c : Cell} (h : Wide9 T) (hi : c.i < 9) : Wide9 (put T c) := by
  refine ⟨by simp [put, h.1], fun r hr => ?_⟩
  rcases List.mem_or_eq_of_mem_set hr with z | z
  · exact h.2 r z
  · rw [z, List.length_set]
    exact h.ro hi
theorem ro_set (T : List (List Int)) (k : Nat) (r : List Int) (i : Nat) (h : k < T.length) : ro (T.set k r) i = if i = k then r else ro T i := by
  by_cases e : i = k
  · subst e
    simp [ro, h]
  · have e2 : ¬ k = i := fun z => e z.symm
    simp [ro, List.getElem?_set, e, e2]
theorem put_co {T : List (List Int)} {c : Cell} (h : Wide9 T) (hi : c.i < 9) (hj : c.j < 9) (i j : Nat) : co2 (put T c) i j = if i = c.i ∧ j = c.j then c.a else co2 T i j := by
  unfold co2 put
  rw [ro_set _ _ _ _ (by rw [h.1]; exact hi)]
  by_cases e : i = c.i
  · rw [if_pos e, getD_set _ _ _ _ (by rw [h.ro hi]; exact hj), e]
    by_cases e2 : j = c.j <;> simp [e2]
  · rw [if_neg e, if_neg fun z => e z.1]
def zero9 : List (List Int) := List.replicate 9 (List.replicate 9 0)
theorem zero9_wide : Wide9 zero9 := ⟨rfl, by decide⟩
theorem zero9_co (i j : Nat) : co2 zero9 i j = 0 := by
  unfold co2 zero9 ro
  by_cases h : i < 9
  · rw [show (List.replicate 9 (List.replicate 9 (0 : Int))).getD i [] = List.replicate 9 0 by rw [List.getD_eq_getElem?_getD, List.getElem?_replicate, if_pos h]; rfl]
    exact co_rep 9 j
  · rw [show (List.replicate 9 (List.replicate 9 (0 : Int))).getD i [] = [] by simp [h]]
    exact co_nil j
def from9 (cs : List Cell) : List (List Int) := cs.foldl put zero9
theorem put_all {F : Nat → Nat → Int} : ∀ (cs : List Cell) (T : List (List Int)), (∀ c ∈ cs, c.i < 9 ∧ c.j < 9 ∧ c.a = F c.i c.j) → Wide9 T →
    Wide9 (cs.foldl put T) ∧ ∀ i j, co2 (cs.foldl put T) i j = co2 T i j ∨ co2 (cs.foldl put T) i j = F i j
  | [], T, _, h => ⟨h, fun i j => .inl rfl⟩
  | c :: cs, T, hc, h => by
    obtain ⟨hi, hj, ha⟩ := hc c (List.mem_cons_self ..)
    obtain ⟨h1, h2⟩ := put_all cs (put T c) (fun d hd => hc d (List.mem_cons_of_mem _ hd)) (put_wide h hi)
    refine ⟨h1, fun i j => ?_⟩
    rcases h2 i j with z | z
    · rw [put_co h hi hj] at z
      by_cases e : i = c.i ∧ j = c.j
      · rw [if_pos e] at z
        exact .inr (by rw [List.foldl_cons, z, ha, e.1, e.2])
      · rw [if_neg e] at z
        exact .inl z
    · exact .inr z
theorem put_hit {F : Nat → Nat → Int} : ∀ (cs : List Cell) (T : List (List Int)), (∀ c ∈ cs, c.i < 9 ∧ c.j < 9 ∧ c.a = F c.i c.j) → Wide9 T → ∀ c ∈ cs, co2 (cs.foldl put T) c.i c.j = F c.i c.j
  | [], T, _, h, c, hc => nomatch hc
  | d :: cs, T, hc, h, c, hm => by
    obtain ⟨hi, hj, ha⟩ := hc d (List.mem_cons_self ..)
    have hw := put_wide h hi
    have hc2 := fun d hd => hc d (List.mem_cons_of_mem _ hd)
    rcases List.mem_cons.mp hm with z | z
    · subst z
      rcases (put_all cs (put T c) hc2 hw).2 c.i c.j with q | q
      · rw [put_co h hi hj, if_pos ⟨rfl, rfl⟩] at q
        rw [List.foldl_cons, q, ha]
      · exact q
    · exact put_hit cs _ hc2 hw c z
theorem from9_co {F : Nat → Nat → Int} {cs : List Cell} (h : ∀ c ∈ cs, c.i < 9 ∧ c.j < 9 ∧ c.a = F c.i c.j) (hn : ∀ i j, F i j ≠ 0 → ∃ a, (⟨i, j, a⟩ : Cell) ∈ cs) (i j : Nat) : co2 (from9 cs) i j = F i j := by
  by_cases e : F i j = 0
  · rcases (put_all cs zero9 h zero9_wide).2 i j with q | q
    · rw [zero9_co] at q
      rw [e]
      exact q
    · exact q
  · obtain ⟨a, ha⟩ := hn i j e
    exact put_hit cs zero9 h zero9_wide _ ha
theorem from9_wide {cs : List Cell} (h : ∀ c ∈ cs, c.i < 9 ∧ c.j < 9) : Wide9 (from9 cs) := by
  have : ∀ (cs : List Cell) (T : List (List Int)), (∀ c ∈ cs, c.i < 9 ∧ c.j < 9) → Wide9 T → Wide9 (cs.foldl put T) := by
    intro cs
    induction cs with
    | nil => exact fun T _ h => h
    | cons c cs ih => exact fun T hc h => ih _ (fun d hd => hc d (List.mem_cons_of_mem _ hd)) (put_wide h (hc c (List.mem_cons_self ..)).1)
  exact this cs zero9 h zero9_wide
theorem co2_ne {A : List (List Int)} {i j : Nat} (h : co2 A i j ≠ 0) : i < A.length ∧ j < (ro A i).length := by
  have hj : j < (ro A i).length := by
    by_cases e : j < (ro A i).length
    · exact e
    · exact absurd (co_ge (Nat.le_of_not_lt e)) h
  refine ⟨?_, hj⟩
  by_cases e : i < A.length
  · exact e
  · rw [ro_ge (Nat.le_of_not_lt e)] at hj
    exact absurd hj (Nat.not_lt_zero _)
/-- a table of at most eight rows of eight places -/
def Few (A : List (List Int)) : Prop := A.length ≤ 8 ∧ ∀ r ∈ A, r.length ≤ 8
theorem Few.ro {A : List (List Int)} (h : Few A) (i : Nat) : (Ev.ro A i).length ≤ 8 := by
  by_cases e : Ev.ro A i = []
  · rw [e]
    simp
  · exact h.2 _ (ro_mem e)
def cellsSx (A : List (List Int)) : List Cell := ((cells A).filter fun c => decide (0 < c.i)).map fun c => ⟨c.i - 1, c.j, (c.i : Int) * c.a⟩
def cellsSy (A : List (List Int)) : List Cell := ((cells A).filter fun c => decide (0 < c.j)).map fun c => ⟨c.i, c.j - 1, (c.j : Int) * c.a⟩
def cellsEx (A : List (List Int)) : List Cell := (cells A).map fun c => ⟨c.j, c.i, c.a⟩
def cellsIx (f : List Int) : List Cell := (List.range f.length).map fun k => ⟨k, 0, co f k⟩
def cellsIy (f : List Int) : List Cell := (List.range f.length).map fun k => ⟨0, k, co f k⟩
theorem cells_few {A : List (List Int)} (h : Few A) {c : Cell} (hc : c ∈ cells A) : c.i < 8 ∧ c.j < 8 := by
  obtain ⟨h1, h2, _⟩ := mem_cells.mp hc
  have := h.ro c.i
  have := h.1
  omega
theorem fromSx_co {A : List (List Int)} (h : Few A) (i j : Nat) : co2 (from9 (cellsSx A)) i j = ((i : Int) + 1) * co2 A (i + 1) j := by
  refine from9_co (F := fun i j => ((i : Int) + 1) * co2 A (i + 1) j) ?_ ?_ i j
  · intro c hc
    obtain ⟨d, hd, rfl⟩ := List.mem_map.mp hc
    obtain ⟨hd, hp⟩ := List.mem_filter.mp hd
    have hp : 0 < d.i := by simpa using hp
    have hf := cells_few h hd
    obtain ⟨_, _, ha⟩ := mem_cells.mp hd
    refine ⟨by show d.i - 1 < 9; omega, by show d.j < 9; omega, ?_⟩
    show (d.i : Int) * d.a = (((d.i - 1 : Nat) : Int) + 1) * co2 A (d.i - 1 + 1) d.j
    rw [show d.i - 1 + 1 = d.i by omega, ha, show ((d.i - 1 : Nat) : Int) + 1 = (d.i : Int) by omega]
  · intro i j hn
    have hn2 : co2 A (i + 1) j ≠ 0 := fun z => hn (by show ((i : Int) + 1) * co2 A (i + 1) j = 0; rw [z, Int.mul_zero])
    obtain ⟨h1, h2⟩ := co2_ne hn2
    refine ⟨_, List.mem_map.mpr ⟨⟨i + 1, j, co2 A (i + 1) j⟩, List.mem_filter.mpr ⟨mem_cells.mpr ⟨h1, h2, rfl⟩, by simp⟩, rfl⟩⟩
theorem fromSy_co {A : List (List Int)} (h : Few A) (i j : Nat) : co2 (from9 (cellsSy A)) i j = ((j : Int) + 1) * co2 A i (j + 1) := by
  refine from9_co (F := fun i j => ((j : Int) + 1) * co2 A i (j + 1)) ?_ ?_ i j
  · intro c hc
    obtain ⟨d, hd, rfl⟩ := List.mem_map.mp hc
    obtain ⟨hd, hp⟩ := List.mem_filter.mp hd
    have hp : 0 < d.j := by simpa using hp
    have hf := cells_few h hd
    obtain ⟨_, _, ha⟩ := mem_cells.mp hd
    refine ⟨by show d.i < 9; omega, by show d.j - 1 < 9; omega, ?_⟩
    show (d.j : Int) * d.a = (((d.j - 1 : Nat) : Int) + 1) * co2 A d.i (d.j - 1 + 1)
    rw [show d.j - 1 + 1 = d.j by omega, ha, show ((d.j - 1 : Nat) : Int) + 1 = (d.j : Int) by omega]
  · intro i j hn
    have hn2 : co2 A i (j + 1) ≠ 0 := fun z => hn (by show ((j : Int) + 1) * co2 A i (j + 1) = 0; rw [z, Int.mul_zero])
    obtain ⟨h1, h2⟩ := co2_ne hn2
    refine ⟨_, List.mem_map.mpr ⟨⟨i, j + 1, co2 A i (j + 1)⟩, List.mem_filter.mpr ⟨mem_cells.mpr ⟨h1, h2, rfl⟩, by simp⟩, rfl⟩⟩
theorem fromEx_co {A : List (List Int)} (h : Few A) (i j : Nat) : co2 (from9 (cellsEx A)) i j = co2 A j i := by
  refine from9_co (F := fun i j => co2 A j i) ?_ ?_ i j
  · intro c hc
    obtain ⟨d, hd, rfl⟩ := List.mem_map.mp hc
    have hf := cells_few h hd
    obtain ⟨_, _, ha⟩ := mem_cells.mp hd
    exact ⟨by show d.j < 9; omega, by show d.i < 9; omega, ha⟩
  · intro i j hn
    obtain ⟨h1, h2⟩ := co2_ne hn
    exact ⟨_, List.mem_map.mpr ⟨⟨j, i, co2 A j i⟩, mem_cells.mpr ⟨h1, h2, rfl⟩, rfl⟩⟩
theorem fromIx_co {f : List Int} (h : f.length ≤ 8) (i j : Nat) : co2 (from9 (cellsIx f)) i j = if j = 0 then co f i else 0 := by
  refine from9_co (F := fun i j => if j = 0 then co f i else 0) ?_ ?_ i j
  · intro c hc
    obtain ⟨k, hk, rfl⟩ := List.mem_map.mp hc
    have := List.mem_range.mp hk
    exact ⟨by show k < 9; omega, by show 0 < 9; omega, rfl⟩
  · intro i j hn
    by_cases e : j = 0
    · subst e
      have hi : i < f.length := by
        by_cases z : i < f.length
        · exact z
        · exact absurd (by show (if 0 = 0 then co f i else 0) = 0; rw [if_pos rfl]; exact co_ge (Nat.le_of_not_lt z)) hn
      exact ⟨_, List.mem_map.mpr ⟨i, List.mem_range.mpr hi, rfl⟩⟩
    · exact absurd (if_neg e) hn
theorem fromIy_co {f : List Int} (h : f.length ≤ 8) (i j : Nat) : co2 (from9 (cellsIy f)) i j = if i = 0 then co f j else 0 := by
  refine from9_co (F := fun i j => if i = 0 then co f j else 0) ?_ ?_ i j
  · intro c hc
    obtain ⟨k, hk, rfl⟩ := List.mem_map.mp hc
    have := List.mem_range.mp hk
    exact ⟨by show 0 < 9; omega, by show k < 9; omega, rfl⟩
  · intro i j hn
    by_cases e : i = 0
    · subst e
      have hi : j < f.length := by
        by_cases z : j < f.length
        · exact z
        · exact absurd (by show (if 0 = 0 then co f j else 0) = 0; rw [if_pos rfl]; exact co_ge (Nat.le_of_not_lt z)) hn
      exact ⟨_, List.mem_map.mpr ⟨j, List.mem_range.mpr hi, rfl⟩⟩
    · exact absurd (if_neg e) hn
theorem co_rangeMap (f : Nat → Int) (n j : Nat) : co ((List.range n).map f) j = if j < n then f j else 0 := by
  by_cases h : j < n
  · simp [co, h]
  · rw [co_ge (by simpa using Nat.le_of_not_lt h), if_neg h]
theorem ro_rangeMap (f : Nat → List Int) (n j : Nat) : ro ((List.range n).map f) j = if j < n then f j else [] := by
  by_cases h : j < n
  · simp [ro, h]
  · rw [ro_ge (by simpa using Nat.le_of_not_lt h), if_neg h]
theorem slope_x_eq {m : Int} (hm : 0 < m) {A : List (List Int)} (h : Few A) : trim2 m (sxI A) = trim2 m (from9 (cellsSx A)) := trim2_ext hm fun i j => by
  rw [fromSx_co h]
  unfold sxI co2
  rw [ro_rangeMap]
  by_cases e : i < A.length - 1
  · rw [if_pos e, co_map _ (Int.mul_zero _)]
    exact Cg.refl _ _
  · rw [if_neg e, co_nil, ro_ge (A := A) (i := i + 1) (by omega), co_nil, Int.mul_zero]
    exact Cg.refl _ _
theorem slI_co (f : List Int) (j : Nat) : co (slI f) j = ((j : Int) + 1) * co f (j + 1) := by
  unfold slI
  rw [co_rangeMap]
  by_cases e : j < f.length - 1
  · rw [if_pos e]
  · rw [if_neg e, co_ge (L := f) (j := j + 1) (by omega), Int.mul_zero]
theorem slope_y_eq {m : Int} (hm : 0 < m) {A : List (List Int)} (h : Few A) : trimE (A.map fun r => redI m (redI m (slI r))) = trim2 m (from9 (cellsSy A)) := by
  have e : (A.map fun r => redI m (redI m (slI r))) = (A.map fun r => redI m (slI r)).map (redI m) := by simp
  rw [e]
  refine trim2_ext hm fun i j => ?_
  rw [fromSy_co h]
  unfold co2
  rw [ro_map _ (by rfl)]
  refine (redI_cg m _ j).trans ?_
  rw [slI_co]
  exact Cg.refl _ _
theorem foldl_max (l : List Int) : ∀ k : Int, k ≤ l.foldl (fun a b => if a < b then b else a) k ∧ (∀ n ∈ l, n ≤ l.foldl (fun a b => if a < b then b else a) k) ∧ (l.foldl (fun a b => if a < b then b else a) k = k ∨ l.foldl (fun a b => if a < b then b else a) k ∈ l) := by
  induction l with
  | nil => exact fun k => ⟨Int.le_refl _, fun n h => (nomatch h), .inl rfl⟩
  | cons b l ih =>
    intro k
    rw [List.foldl_cons]
    obtain ⟨h1, h2, h3⟩ := ih (if k < b then b else k)
    have hk : k ≤ (if k < b then b else k) ∧ b ≤ (if k < b then b else k) := by split <;> omega
    refine ⟨by omega, ?_, ?_⟩
    · intro n hn
      rcases List.mem_cons.mp hn with z | z
      · subst z
        omega
      · exact h2 n z
    · rcases h3 with z | z
      · by_cases e : k < b
        · rw [if_pos e] at z ⊢
          exact .inr (by rw [z]; exact List.mem_cons_self ..)
        · rw [if_neg e] at z ⊢
          exact .inl z
      · exact .inr (List.mem_cons_of_mem _ z)
theorem wid_ge {A : List (List Int)} {r : List Int} (h : r ∈ A) : (r.length : Int) ≤ widI A := by
  unfold widI
  cases A with
  | nil => nomatch h
  | cons a A =>
    rw [List.map_cons]
    show _ ≤ List.foldl _ _ _
    obtain ⟨h1, h2, _⟩ := foldl_max (A.map fun r => (r.length : Int)) (a.length : Int)
    rcases List.mem_cons.mp h with z | z
    · rw [z]
      exact h1
    · exact h2 _ (List.mem_map.mpr ⟨r, z, rfl⟩)
theorem wid_mem {A : List (List Int)} (h : 0 < widI A) : ∃ r ∈ A, widI A = (r.length : Int) := by
  unfold widI at h ⊢
  cases A with
  | nil => exact absurd h (by decide)
  | cons a A =>
    rw [List.map_cons] at h ⊢
    show ∃ r ∈ a :: A, List.foldl _ _ _ = _
    obtain ⟨_, _, h3⟩ := foldl_max (A.map fun r => (r.length : Int)) (a.length : Int)
    rcases h3 with z | z
    · exact ⟨a, List.mem_cons_self .., z⟩
    · obtain ⟨r, hr, e⟩ := List.mem_map.mp z
      exact ⟨r, List.mem_cons_of_mem _ hr, e.symm⟩
theorem co_col (A : List (List Int)) (i j : Nat) : co (A.map fun r => r.getD j 0) i = co2 A i j := by
  unfold co2 ro co
  by_cases h : i < A.length
  · simp [h]
  · simp [List.getElem?_eq_none (Nat.le_of_not_lt h)]
theorem exI_co (A : List (List Int)) (i j : Nat) : co2 (exI A) i j = co2 A j i := by
  unfold exI co2
  rw [ro_rangeMap]
  by_cases h : i < (widI A).toNat
  · rw [if_pos h, trimI_co, co_col]
  · rw [if_neg h, co_nil]
    by_cases e : ro A j = []
    · rw [e, co_nil]
    · have := wid_ge (ro_mem e)
      exact (co_ge (by omega)).symm
theorem exI_red {m : Int} (hm : 0 < m) {A : List (List Int)} (h : Red2 m A) : Red2 m (exI A) := by
  have hrow : ∀ r ∈ exI A, redI m r = r := by
    intro r hr
    obtain ⟨j, _, rfl⟩ := List.mem_map.mp hr
    refine (trimI_ext fun i => ?_).trans (trimI_idem _)
    rw [co_map _ (by simp), trimI_co, co_col]
    have := h.bd hm i j
    exact fmod_small this.1 this.2
  have hmap : (exI A).map (redI m) = exI A := by
    conv => rhs; rw [← List.map_id (exI A)]
    exact List.map_congr_left hrow
  show trimE ((exI A).map (redI m)) = exI A
  rw [hmap]
  refine trimE_fix fun hn => ?_
  have hl : (exI A).length = (widI A).toNat := by simp [exI]
  have hw : 0 < widI A := by
    have : (exI A).length ≠ 0 := fun z => hn (List.length_eq_zero_iff.mp z)
    omega
  obtain ⟨r, hr, e⟩ := wid_mem hw
  intro z
  have hz : ro (exI A) ((widI A).toNat - 1) = [] := by
    rw [← z, List.getLast_eq_getElem]
    have hlt : (widI A).toNat - 1 < (exI A).length := by omega
    simp only [ro, hl]
    rw [List.getD_eq_getElem?_getD, List.getElem?_eq_getElem hlt]
    rfl
  obtain ⟨i, hi, rfl⟩ := List.getElem_of_mem hr
  have hro : ro A i = A[i] := by simp [ro, hi]
  have hne : A[i] ≠ [] := fun z => by rw [z] at e; simp at e; omega
  have h1 : co2 (exI A) ((widI A).toNat - 1) i = 0 := by
    unfold co2
    rw [hz]
    exact co_nil i
  rw [exI_co] at h1
  have hlast := (h.row (List.getElem_mem hi)).last hne
  apply hlast
  rw [List.getLast_eq_getElem]
  unfold co2 at h1
  rw [hro] at h1
  have : (widI A).toNat - 1 = A[i].length - 1 := by omega
  rw [this] at h1
  have hp : 0 < A[i].length := List.length_pos_iff.mpr hne
  have hlt : A[i].length - 1 < A[i].length := by omega
  simpa [co, hlt] using h1
theorem exchanged_eq {m : Int} (hm : 0 < m) {A : List (List Int)} (h : Few A) (hr : Red2 m A) : exI A = trim2 m (from9 (cellsEx A)) :=
  (exI_red hm hr).ext hm (trim2_red hm _) fun i j => by
    refine Cg.symm ((trim2_cg m _ i j).trans ?_)
    rw [fromEx_co h, exI_co]
    exact Cg.refl _ _
theorem exchanged_twice {m : Int} (hm : 0 < m) {A : List (List Int)} (hr : Red2 m A) : exI (exI A) = A :=
  (exI_red hm (exI_red hm hr)).ext hm hr fun i j => by
    rw [exI_co, exI_co]
    exact Cg.refl _ _
theorem in_x_red {m : Int} (hm : 0 < m) {f : List Int} (h : Red m f) : Red2 m (f.map fun a => if a = 0 then [] else [a]) := by
  have hrow : ∀ r ∈ (f.map fun a => if a = 0 then [] else [a]), redI m r = r := by
    intro r hr
    obtain ⟨a, ha, rfl⟩ := List.mem_map.mp hr
    by_cases e : a = 0
    · simp [e]; rfl
    · obtain ⟨j, hj, rfl⟩ := List.getElem_of_mem ha
      have hb := h.co j
      have e2 : co f j = f[j] := by simp [co, hj]
      rw [e2] at hb
      rw [if_neg e]
      show trimI [f[j].fmod m] = _
      rw [hb]
      simp [trimI, e]
  show trimE ((f.map fun a => if a = 0 then [] else [a]).map (redI m)) = _
  have hmap : (f.map fun a => if a = 0 then [] else [a]).map (redI m) = (f.map fun a => if a = 0 then [] else [a]) := by
    conv => rhs; rw [← List.map_id (f.map fun a => if a = 0 then [] else [a])]
    exact List.map_congr_left hrow
  rw [hmap]
  refine trimE_fix fun hn => ?_
  have hf : f ≠ [] := fun z => hn (by rw [z]; rfl)
  rw [List.getLast_map]
  have := h.last hf
  simp [this]
theorem in_x_eq {m : Int} (hm : 0 < m) {f : List Int} (h : Red m f) (hl : f.length ≤ 8) : (f.map fun a => if a = 0 then [] else [a]) = trim2 m (from9 (cellsIx f)) :=
  (in_x_red hm h).ext hm (trim2_red hm _) fun i j => by
    refine Cg.symm ((trim2_cg m _ i j).trans ?_)
    rw [fromIx_co hl]
    refine Cg.of_eq ?_
    unfold co2 ro
    by_cases hi : i < f.length
    · have e : (f.map fun a => if a = 0 then ([] : List Int) else [a]).getD i [] = if co f i = 0 then [] else [co f i] := by simp [co, hi]
      rw [e]
      by_cases z : co f i = 0
      · rw [if_pos z, z, co_nil, ite_self]
      · rw [if_neg z]
        cases j with
        | zero => rfl
        | succ j => simp [co]
    · have e : (f.map fun a => if a = 0 then ([] : List Int) else [a]).getD i [] = [] := by simp [List.getElem?_eq_none (Nat.le_of_not_lt hi)]
      rw [e, co_nil, co_ge (Nat.le_of_not_lt hi), ite_self]
theorem in_y_eq {m : Int} (hm : 0 < m) {f : List Int} (h : Red m f) (hl : f.length ≤ 8) : (if f = [] then [] else [f]) = trim2 m (from9 (cellsIy f)) := by
  have hr : Red2 m (if f = [] then [] else [f]) := by
    by_cases e : f = []
    · rw [if_pos e]; rfl
    · rw [if_neg e]
      show trimE [redI m f] = [f]
      rw [show redI m f = f from h]
      simp [trimE, e]
  refine hr.ext hm (trim2_red hm _) fun i j => ?_
  refine Cg.symm ((trim2_cg m _ i j).trans ?_)
  rw [fromIy_co hl]
  refine Cg.of_eq ?_
  unfold co2
  by_cases e : f = []
  · simp [e, ro, co]
  · rw [if_neg e]
    cases i with
    | zero => rfl
    | succ i => simp [ro, co]
def lineS (m x : Int) (side : Nat) (L : List Int) (c : Cell) : List Int :=
  let s := if side = 0 then c.j else c.i
  let g := if side = 0 then c.i else c.j
  L.set s (co L s + c.a * pwI m x g)
def lineI (m x : Int) (side : Nat) (cs : List Cell) : List Int := cs.foldl (lineS m x side) (List.replicate 9 0)
theorem line_co {m x : Int} {side : Nat} : ∀ (cs : List Cell) (L : List Int), L.length = 9 → (∀ c ∈ cs, c.i < 9 ∧ c.j < 9) →
    (cs.foldl (lineS m x side) L).length = 9 ∧ ∀ s, co (cs.foldl (lineS m x side) L) s = co L s + (cs.map fun c => if s = (if side = 0 then c.j else c.i) then c.a * pwI m x (if side = 0 then c.i else c.j) else 0).sum
  | [], L, h, _ => ⟨h, fun s => (Int.add_zero _).symm⟩
  | c :: cs, L, h, hc => by
    have hb := hc c (List.mem_cons_self ..)
    have hs : (if side = 0 then c.j else c.i) < L.length := by rw [h]; split <;> omega
    obtain ⟨h1, h2⟩ := line_co cs (lineS m x side L c) (by simp [lineS, h]) fun d hd => hc d (List.mem_cons_of_mem _ hd)
    refine ⟨h1, fun s => ?_⟩
    rw [List.foldl_cons, h2, List.map_cons, List.sum_cons]
    unfold lineS
    rw [getD_set _ _ _ _ hs]
    by_cases e : s = (if side = 0 then c.j else c.i)
    · rw [if_pos e, if_pos e, ← e, Int.add_assoc]
    · rw [if_neg e, if_neg e, Int.zero_add]
theorem sum_flat {α : Type} (g : α → Int) (f : Nat → List α) : ∀ n : Nat, (((List.range n).flatMap f).map g).sum = sumN n fun i => ((f i).map g).sum
  | 0 => rfl
  | n + 1 => by
    rw [List.range_succ, List.flatMap_append, List.map_append, List.sum_append, sum_flat g f n]
    show _ = sumN n _ + _
    simp
theorem sum_cells (A : List (List Int)) (g : Cell → Int) : ((cells A).map g).sum = sumN A.length fun i => sumN (ro A i).length fun j => g ⟨i, j, co2 A i j⟩ := by
  unfold cells
  rw [sum_flat]
  refine sumN_congr fun i _ => ?_
  unfold rowCells
  rw [List.map_map, ← sum_range]
  rfl
theorem line0_co {m x : Int} {A : List (List Int)} (h : Few A) (s : Nat) : Cg m (co (lineI m x 0 (cells A)) s) (evZ x (A.map fun r => co r s)) := by
  have := (line_co (m := m) (x := x) (side := 0) (cells A) (List.replicate 9 0) rfl fun c hc => by have := cells_few h hc; omega).2 s
  unfold lineI
  rw [this, co_rep, Int.zero_add, sum_cells]
  unfold evZ
  rw [List.length_map]
  refine Cg.sum fun i _ => ?_
  have e : co (A.map fun r => co r s) i = co2 A i s := co_col A i s
  rw [e]
  by_cases hs : s < (ro A i).length
  · rw [sumN_one hs fun j _ hj => if_neg fun z => hj (by simpa using z.symm)]
    simp only [if_true]
    exact (Cg.refl _ _).mul (pwI_cg m x i)
  · rw [show co2 A i s = 0 from co_ge (Nat.le_of_not_lt hs), Int.zero_mul, sumN_zero fun j hj => if_neg fun z => hs (by simp at z; omega)]
    exact Cg.refl _ _
theorem line1_co {m x : Int} {A : List (List Int)} (h : Few A) (s : Nat) : Cg m (co (lineI m x 1 (cells A)) s) (evZ x (ro A s)) := by
  have := (line_co (m := m) (x := x) (side := 1) (cells A) (List.replicate 9 0) rfl fun c hc => by have := cells_few h hc; omega).2 s
  unfold lineI
  rw [this, co_rep, Int.zero_add, sum_cells]
  by_cases hs : s < A.length
  · rw [sumN_one hs fun i _ hi => sumN_zero fun j _ => if_neg fun z => hi (by simpa using z.symm)]
    unfold evZ
    refine Cg.sum fun j _ => ?_
    simp only [Nat.one_ne_zero, if_false, if_true]
    exact (Cg.refl _ _).mul (pwI_cg m x j)
  · rw [ro_ge (Nat.le_of_not_lt hs), sumN_zero fun i hi => sumN_zero fun j _ => if_neg fun z => hs (by simp at z; omega)]
    exact Cg.refl _ _
theorem with_x_eq {m x : Int} (hm : 0 < m) {A : List (List Int)} (h : Few A) : hxI m x A = redI m (lineI m x 0 (cells A)) :=
  (hxI_red hm A).ext hm (redI_red hm _) fun j => (hxI_co j A).trans (Cg.symm ((redI_cg m _ j).trans (line0_co h j)))
theorem with_y_eq {m x : Int} (hm : 0 < m) {A : List (List Int)} (h : Few A) : redI m (A.map (horI m x)) = redI m (lineI m x 1 (cells A)) :=
  redI_ext hm fun j => by
    refine Cg.trans ?_ (line1_co h j).symm
    have e : co (A.map (horI m x)) j = horI m x (ro A j) := by
      unfold co ro
      by_cases hj : j < A.length
      · simp [hj]
      · simp [List.getElem?_eq_none (Nat.le_of_not_lt hj)]
        rfl
    rw [e]
    exact horI_cg m x _
theorem row_eq (m : Int) (L : List Int) : (trim2 m [L]).getD 0 [] = redI m L := by
  have := trim2_ro m [L] 0
  simpa [ro] using this
end Ev
end
section
namespace Ev
open PySem

abbrev NE : Exn → Env → Prop := fun _ _ => False
def wpF (r : FR) (Q : Sl → List Sl → Prop) : Prop := match r with
  | .ok s fin => Q s fin
  | _ => False
def endQ (ms : List Bool) (Q : Sl → List Sl → Prop) : Fl → Env → Prop
  | .rt s, e => ∃ fin, finOf ms e = some fin ∧ Q s fin
  | .nx, e => ∃ fin, finOf ms e = some fin ∧ Q (.imm .none) fin
  | _, _ => False
theorem wpF_run {sg : Sig} {call : Call} {ms : List Bool} {d : Def} {ss : List Sl} {Q : Sl → List Sl → Prop} (hl : ss.length = ms.length)
    (h : wpR ((den sg call (pinsOf ms 0) d.body).S (ss.map some ++ List.replicate (d.slots - ss.length) none)) (endQ ms Q) NE) : wpF (runDef sg call ms d ss) Q := by
  unfold runDef
  rw [if_pos hl]
  generalize (den sg call (pinsOf ms 0) d.body).S _ = r at h
  cases r with
  | bad => exact h.elim
  | ex x e => exact h.elim
  | ok f e =>
    cases f with
    | bk => exact h.elim
    | ct => exact h.elim
    | nx =>
      obtain ⟨fin, e1, q⟩ := h
      simp only [e1]
      exact q
    | rt s =>
      obtain ⟨fin, e1, q⟩ := h
      simp only [e1]
      exact q
theorem wpF_get {r : FR} {Q : Sl → List Sl → Prop} (h : wpF r Q) : ∃ s fin, r = .ok s fin ∧ Q s fin := by
  cases r with
  | ok s fin => exact ⟨s, fin, rfl, h⟩
  | ex x fin => exact h.elim
  | bad => exact h.elim
theorem wpF_mono {r : FR} {Q Q' : Sl → List Sl → Prop} (h : wpF r Q) (k : ∀ s fin, Q s fin → Q' s fin) : wpF r Q' := by
  cases r with
  | ok s fin => exact k s fin h
  | ex x fin => exact h
  | bad => exact h
section
variable {sg : Sig} {call : Call} {pins : List Nat} {e : Env} {α β : Type}
@[simp] theorem w_bind {m : M α} {f : α → M β} {R : β → Env → Prop} {X : Exn → Env → Prop} : wpR ((m >>= f) e) R X ↔ wpR (m e) (fun a e' => wpR (f a e') R X) X := wpR_bind
@[simp] theorem w_ok {a : α} {Q : α → Env → Prop} {X : Exn → Env → Prop} : wpR (.ok a e) Q X ↔ Q a e := Iff.rfl
@[simp] theorem w_pure {a : α} {Q : α → Env → Prop} {X : Exn → Env → Prop} : wpR (M.pure a e) Q X ↔ Q a e := Iff.rfl
@[simp] theorem w_bad {Q : α → Env → Prop} {X : Exn → Env → Prop} : wpR (badM e) Q X ↔ False := Iff.rfl
@[simp] theorem w_lift {o : Option α} {Q : α → Env → Prop} {X : Exn → Env → Prop} : wpR (liftO o e) Q X ↔ ∃ a, o = some a ∧ Q a e := wpR_lift
@[simp] theorem w_get {i : Nat} {Q : Sl → Env → Prop} {X : Exn → Env → Prop} : wpR (getS i e) Q X ↔ ∃ s, e[i]? = some (some s) ∧ Q s e := wpR_getS
@[simp] theorem w_put {i : Nat} {s : Option Sl} {Q : Unit → Env → Prop} {X : Exn → Env → Prop} : wpR (putS i s e) Q X ↔ Q () (e.set i s) := Iff.rfl
@[simp] theorem w_if {c : Prop} [Decidable c] {m k : M α} {Q : α → Env → Prop} {X : Exn → Env → Prop} : wpR ((if c then m else k) e) Q X ↔ (c → wpR (m e) Q X) ∧ (¬ c → wpR (k e) Q X) := by
  by_cases h : c <;> simp [h]
@[simp high] theorem w_ifb {c : Prop} [Decidable c] {m : M α} {Q : α → Env → Prop} {X : Exn → Env → Prop} : wpR ((if c then m else badM) e) Q X ↔ c ∧ wpR (m e) Q X := by
  by_cases h : c <;> simp [h, wpR, badM]
@[simp] theorem w_var {i : Nat} {Q : TV → Env → Prop} {X : Exn → Env → Prop} : wpR ((match e[i]? with | some (some _) => Res.ok (TV.ref i) e | _ => Res.bad)) Q X ↔ (∃ s, e[i]? = some (some s)) ∧ Q (.ref i) e := by
  cases h : e[i]? with
  | none => simp [wpR]
  | some o => cases o <;> simp [wpR]
@[simp] theorem w_fzr {i : Nat} {Q : TV → Env → Prop} {X : Exn → Env → Prop} : wpR (fz (.ref i) e) Q X ↔ Q (.ref i) e := Iff.rfl
@[simp] theorem w_fzi {d : D} {Q : TV → Env → Prop} {X : Exn → Env → Prop} : wpR (fz (.val (.imm d)) e) Q X ↔ Q (.val (.imm d)) e := Iff.rfl
@[simp] theorem w_fzo {ds : List D} {Q : TV → Env → Prop} {X : Exn → Env → Prop} : wpR (fz (.val (.own (.list ds))) e) Q X ↔ Q (.val (.imm (.list ds))) e := Iff.rfl
@[simp] theorem w_looki {d : D} {Q : D → Env → Prop} {X : Exn → Env → Prop} : wpR (look (.val (.imm d)) e) Q X ↔ Q d e := Iff.rfl
@[simp] theorem w_lookr {i : Nat} {Q : D → Env → Prop} {X : Exn → Env → Prop} : wpR (look (.ref i) e) Q X ↔ ∃ s, e[i]? = some (some s) ∧ ∃ d, s.data = some d ∧ Q d e := by
  show wpR ((getS i >>= fun s => liftO s.data) e) Q X ↔ _
  simp
@[simp] theorem w_inti {d : D} {Q : Int → Env → Prop} {X : Exn → Env → Prop} : wpR (intOf (.val (.imm d)) e) Q X ↔ ∃ k, d = .int k ∧ Q k e := by
  show wpR ((look (.val (.imm d)) >>= fun d => match d with | .int i => M.pure i | _ => badM) e) Q X ↔ _
  rw [w_bind, w_looki]
  cases d <;> simp
@[simp] theorem w_intr {i : Nat} {Q : Int → Env → Prop} {X : Exn → Env → Prop} : wpR (intOf (.ref i) e) Q X ↔ ∃ s, e[i]? = some (some s) ∧ ∃ k, s.data = some (.int k) ∧ Q k e := by
  show wpR ((look (.ref i) >>= fun d => match d with | .int i => M.pure i | _ => badM) e) Q X ↔ _
  rw [w_bind, w_lookr]
  constructor
  · rintro ⟨s, h, d, h2, q⟩
    cases d <;> simp only [w_bad, w_pure] at q
    exact ⟨s, h, _, h2, q⟩
  · rintro ⟨s, h, k, h2, q⟩
    exact ⟨s, h, _, h2, q⟩
@[simp] theorem w_booli {d : D} {Q : Bool → Env → Prop} {X : Exn → Env → Prop} : wpR (boolOf (.val (.imm d)) e) Q X ↔ ∃ k, d = .bool k ∧ Q k e := by
  show wpR ((look (.val (.imm d)) >>= fun d => match d with | .bool i => M.pure i | _ => badM) e) Q X ↔ _
  rw [w_bind, w_looki]
  cases d <;> simp
@[simp] theorem w_toi {d : D} {Q : Sl → Env → Prop} {X : Exn → Env → Prop} : wpR (toStore pins (.val (.imm d)) e) Q X ↔ Q (.imm d) e := Iff.rfl
@[simp] theorem w_too {d : D} {Q : Sl → Env → Prop} {X : Exn → Env → Prop} : wpR (toStore pins (.val (.own d)) e) Q X ↔ Q (.own d) e := Iff.rfl
@[simp] theorem w_shi {d : D} {Q : D → Env → Prop} {X : Exn → Env → Prop} : wpR (shareD pins (.val (.imm d)) e) Q X ↔ Q d e := Iff.rfl
@[simp] theorem w_sti {i : Nat} {s : Sl} {Q : Unit → Env → Prop} {X : Exn → Env → Prop} : wpR (store pins i s e) Q X ↔ (pins.contains i = false ∧ i < e.length) ∧ Q () (e.set i (some s)) := by
  unfold store
  cases hc : pins.contains i with
  | true => simp [wpR, badM]
  | false =>
    by_cases hl : i < e.length
    · simp [hl, wpR]
    · simp [hl, wpR]
@[simp] theorem w_noSt {i : Nat} {s : Sl} {Q : Unit → Env → Prop} {X : Exn → Env → Prop} : wpR (noEx (store pins i s) e) Q X ↔ (pins.contains i = false ∧ i < e.length) ∧ Q () (e.set i (some s)) := by
  unfold noEx store
  cases hc : pins.contains i with
  | true => simp [wpR, badM]
  | false =>
    by_cases hl : i < e.length
    · simp [hl, wpR]
    · simp [hl, wpR]
@[simp] theorem d_imm {d : D} : (Sl.imm d).data = some d := rfl
@[simp] theorem d_own {d : D} : (Sl.own d).data = some d := rfl
/-- a slot's value is handed on: an imm one -/
theorem w_shr {i : Nat} {d : D} {Q : D → Env → Prop} {X : Exn → Env → Prop} (h : e[i]? = some (some (.imm d))) (q : Q d e) : wpR (shareD pins (.ref i) e) Q X := by
  show wpR ((share pins (.ref i) >>= fun s => liftO s.data) e) Q X
  rw [w_bind]
  show wpR ((getS i >>= fun s => _) e) _ X
  rw [w_bind, w_get]
  exact ⟨_, h, q⟩
/-- .. an own list: from now on nobody changes it -/
theorem w_shl {i : Nat} {ds : List D} {Q : D → Env → Prop} {X : Exn → Env → Prop} (h : e[i]? = some (some (.own (.list ds)))) (hp : pins.contains i = false) (q : Q (.list ds) (e.set i (some (.imm (.list ds))))) : wpR (shareD pins (.ref i) e) Q X := by
  show wpR ((share pins (.ref i) >>= fun s => liftO s.data) e) Q X
  rw [w_bind]
  show wpR ((getS i >>= fun s => _) e) _ X
  rw [w_bind, w_get]
  refine ⟨_, h, ?_⟩
  simp only [hp, Bool.false_eq_true, if_false]
  exact q
def shQ (pins : List Nat) (i : Nat) (e : Env) (Q : D → Env → Prop) : Sl → Prop
  | .imm d => Q d e
  | .own (.list ds) => pins.contains i = false ∧ Q (.list ds) (e.set i (some (.imm (.list ds))))
  | .own2 dss => pins.contains i = false ∧ Q (.list (dss.map .list)) (e.set i (some (.imm (.list (dss.map .list)))))
  | _ => False
@[simp] theorem shQ_imm {i : Nat} {d : D} {Q : D → Env → Prop} : shQ pins i e Q (.imm d) ↔ Q d e := Iff.rfl
@[simp] theorem shQ_own {i : Nat} {ds : List D} {Q : D → Env → Prop} : shQ pins i e Q (.own (.list ds)) ↔ pins.contains i = false ∧ Q (.list ds) (e.set i (some (.imm (.list ds)))) := Iff.rfl
@[simp] theorem shQ_own2 {i : Nat} {dss : List (List D)} {Q : D → Env → Prop} : shQ pins i e Q (.own2 dss) ↔ pins.contains i = false ∧ Q (.list (dss.map .list)) (e.set i (some (.imm (.list (dss.map .list))))) := Iff.rfl
@[simp] theorem w_share {i : Nat} {Q : D → Env → Prop} {X : Exn → Env → Prop} : wpR (shareD pins (.ref i) e) Q X ↔ ∃ s, e[i]? = some (some s) ∧ shQ pins i e Q s := by
  show wpR ((share pins (.ref i) >>= fun s => liftO s.data) e) Q X ↔ _
  rw [w_bind]
  show wpR ((getS i >>= fun s => _) e) _ X ↔ _
  rw [w_bind, w_get]
  constructor
  · rintro ⟨s, h, q⟩
    refine ⟨s, h, ?_⟩
    cases s with
    | imm d => simpa using q
    | exc x => simp [Sl.data] at q
    | own d =>
      cases hc : pins.contains i with
      | true => simp only [hc, if_true, w_bad] at q
      | false =>
        simp only [hc, Bool.false_eq_true, if_false] at q
        cases d <;> first | exact ⟨hc, q⟩ | (simp [Sl.share] at q)
    | own2 d =>
      cases hc : pins.contains i with
      | true => simp only [hc, if_true, w_bad] at q
      | false =>
        simp only [hc, Bool.false_eq_true, if_false] at q
        exact ⟨hc, q⟩
  · rintro ⟨s, h, q⟩
    refine ⟨s, h, ?_⟩
    cases s with
    | imm d => exact q
    | exc x => exact q.elim
    | own d =>
      cases d <;> first | exact q.elim | (obtain ⟨hc, q⟩ := q; simp only [hc, Bool.false_eq_true, if_false]; exact q)
    | own2 d =>
      obtain ⟨hc, q⟩ := q
      simp only [hc, Bool.false_eq_true, if_false]
      exact q
@[simp] theorem w_kn {Q : Unit → Env → Prop} {X : Exn → Env → Prop} : wpR (kills pins [] e) Q X ↔ Q () e := Iff.rfl
@[simp] theorem w_kc {i : Nat} {r : List Nat} {Q : Unit → Env → Prop} {X : Exn → Env → Prop} : wpR (kills pins (i :: r) e) Q X ↔ pins.contains i = false ∧ wpR (kills pins r (e.set i none)) Q X := by
  show wpR (((if pins.contains i then badM else putS i none) >>= fun _ => kills pins r) e) Q X ↔ _
  cases hc : pins.contains i <;> simp
@[simp] theorem w_lkn {Q : List D → Env → Prop} {X : Exn → Env → Prop} : wpR (looks [] e) Q X ↔ Q [] e := Iff.rfl
@[simp] theorem w_lkc {t : TV} {ts : List TV} {Q : List D → Env → Prop} {X : Exn → Env → Prop} : wpR (looks (t :: ts) e) Q X ↔ wpR (look t e) (fun d e1 => wpR (looks ts e1) (fun ds e2 => Q (d :: ds) e2) X) X := by
  show wpR ((look t >>= fun d => looks ts >>= fun ds => M.pure (d :: ds)) e) Q X ↔ _
  simp
@[simp] theorem w_shn {Q : List D → Env → Prop} {X : Exn → Env → Prop} : wpR (shareDs pins [] e) Q X ↔ Q [] e := Iff.rfl
@[simp] theorem w_shc {t : TV} {ts : List TV} {Q : List D → Env → Prop} {X : Exn → Env → Prop} : wpR (shareDs pins (t :: ts) e) Q X ↔ wpR (shareD pins t e) (fun d e1 => wpR (shareDs pins ts e1) (fun ds e2 => Q (d :: ds) e2) X) X := by
  show wpR ((shareD pins t >>= fun d => shareDs pins ts >>= fun ds => M.pure (d :: ds)) e) Q X ↔ _
  simp
@[simp] theorem it_l {xs : List D} : itemsOf (.list xs) = some xs := rfl
@[simp] theorem it_t {xs : List D} : itemsOf (.tuple xs) = some xs := rfl
/-- a slot's value, put into another or given back -/
@[simp] theorem w_tor {i : Nat} {Q : Sl → Env → Prop} {X : Exn → Env → Prop} {d : D} (h : e[i]? = some (some (.imm d))) : wpR (toStore pins (.ref i) e) Q X ↔ Q (.imm d) e := by
  show wpR ((getS i >>= fun s => _) e) _ X ↔ _
  rw [w_bind, w_get]
  constructor
  · rintro ⟨s, h2, q⟩
    rw [h] at h2
    cases h2
    exact q
  · exact fun q => ⟨_, h, q⟩
@[simp] theorem w_isL {ds : List D} {Q : Unit → Env → Prop} {X : Exn → Env → Prop} : wpR (isL (.own (.list ds)) e) Q X ↔ Q () e := Iff.rfl
@[simp] theorem w_isL2 {ds : List (List D)} {Q : Unit → Env → Prop} {X : Exn → Env → Prop} : wpR (isL2 (.own2 ds) e) Q X ↔ Q () e := Iff.rfl
@[simp] theorem w_no2i {d : D} {Q : Unit → Env → Prop} {X : Exn → Env → Prop} : wpR (no2 (.imm d) e) Q X ↔ Q () e := Iff.rfl
@[simp] theorem w_no2o {d : D} {Q : Unit → Env → Prop} {X : Exn → Env → Prop} : wpR (no2 (.own d) e) Q X ↔ Q () e := Iff.rfl
theorem w_mono {r : Res α} {Q Q' : α → Env → Prop} {X : Exn → Env → Prop} (h : wpR r Q NE) (k : ∀ a e, Q a e → Q' a e) : wpR r Q' X := wpR_mono h k fun _ _ z => z.elim
theorem w_noEx {m : M α} {Q : α → Env → Prop} {X : Exn → Env → Prop} (h : wpR (m e) Q NE) : wpR (noEx m e) Q X := by
  unfold noEx
  cases q : m e with
  | ok a e' =>
    rw [q] at h
    exact h
  | ex x e' =>
    rw [q] at h
    exact h.elim
  | bad =>
    rw [q] at h
    exact h.elim
theorem w_lc {f : D → M (Option D)} {X : Exn → Env → Prop} (I : List D → List D → Env → Prop) {xs : List D} {Q : List D → Env → Prop} (h0 : I xs [] e)
    (hs : ∀ x rest acc e, I (x :: rest) acc e → wpR (f x e) (fun y e' => I rest (acc ++ y.toList) e') NE) (hq : ∀ ys e', I [] ys e' → Q ys e') : wpR (noEx (lcLoop f xs) e) Q X := by
  refine w_noEx ?_
  have key : ∀ (xs acc : List D) (e : Env), I xs acc e → wpR (lcLoop f xs e) (fun ys e' => Q (acc ++ ys) e') NE := by
    intro xs
    induction xs with
    | nil =>
      intro acc e h
      show Q (acc ++ []) e
      rw [List.append_nil]
      exact hq _ _ h
    | cons x xs ih =>
      intro acc e h
      simp only [lcLoop, w_bind]
      refine w_mono (hs x xs acc e h) fun y e1 h1 => ?_
      refine w_mono (ih _ _ h1) fun ys e2 h2 => ?_
      cases y with
      | none =>
        simp only [Option.toList_none, List.append_nil] at h2
        exact h2
      | some d =>
        simp only [Option.toList_some, List.append_assoc, List.cons_append, List.nil_append] at h2
        exact h2
  exact key xs [] e h0
/-- every turn leaves the slots as they were -/
theorem w_lcMap {f : D → M (Option D)} {X : Exn → Env → Prop} (g : D → Option D) {xs : List D} {Q : List D → Env → Prop} (hs : ∀ x ∈ xs, wpR (f x e) (fun y e' => y = g x ∧ e' = e) NE) (q : Q (xs.filterMap g) e) : wpR (noEx (lcLoop f xs) e) Q X := by
  refine w_lc (fun rest acc e' => e' = e ∧ (∀ x ∈ rest, x ∈ xs) ∧ acc ++ rest.filterMap g = xs.filterMap g) ⟨rfl, fun _ h => h, rfl⟩ ?_ ?_
  · rintro x rest acc e' ⟨rfl, hm, ha⟩
    refine w_mono (hs x (hm x (List.mem_cons_self ..))) ?_
    rintro y e2 ⟨rfl, rfl⟩
    refine ⟨rfl, fun z hz => hm z (List.mem_cons_of_mem _ hz), ?_⟩
    rw [← ha, List.filterMap_cons]
    cases g x <;> simp
  · rintro ys e' ⟨rfl, _, ha⟩
    rw [List.filterMap_nil, List.append_nil] at ha
    rw [ha]
    exact q
theorem w_for {f : D → M Fl} {X : Exn → Env → Prop} (I : List D → Env → Prop) {xs : List D} {Q : Fl → Env → Prop} (h0 : I xs e)
    (hs : ∀ x rest e, I (x :: rest) e → wpR (f x e) (fun fl e' => match fl with
      | .nx => I rest e'
      | .ct => I rest e'
      | .bk => Q .nx e'
      | .rt s => Q (.rt s) e') NE) (hq : ∀ e', I [] e' → Q .nx e') : wpR (forLoop f xs e) Q X := by
  have key : ∀ (xs : List D) (e : Env), I xs e → wpR (forLoop f xs e) Q NE := by
    intro xs
    induction xs with
    | nil => exact fun e h => hq e h
    | cons x xs ih =>
      intro e h
      simp only [forLoop, w_bind]
      refine w_mono (hs x xs e h) fun fl e1 h1 => ?_
      cases fl with
      | nx => exact ih _ h1
      | ct => exact ih _ h1
      | bk => exact h1
      | rt s => exact h1
  exact w_mono (key xs e h0) fun _ _ z => z
/-- a walk over l, the slots told by a state -/
theorem w_forM {S T : Type} {f : D → M Fl} {X : Exn → Env → Prop} (g : T → D) (E : S → Env) (I : List T → S → Prop) {l : List T} (s0 : S) {Q : Fl → Env → Prop} (h0 : I l s0)
    (hs : ∀ t rest s, I (t :: rest) s → wpR (f (g t) (E s)) (fun fl e' => match fl with
      | .nx => ∃ s', e' = E s' ∧ I rest s'
      | .ct => ∃ s', e' = E s' ∧ I rest s'
      | .bk => Q .nx e'
      | .rt s => Q (.rt s) e') NE) (hq : ∀ s, I [] s → Q .nx (E s)) : wpR (forLoop f (l.map g) (E s0)) Q X := by
  refine w_for (fun rest e => ∃ l s, rest = l.map g ∧ e = E s ∧ I l s) ⟨l, s0, rfl, rfl, h0⟩ ?_ ?_
  · rintro x rest e ⟨l, s, hr, rfl, h⟩
    cases l with
    | nil => cases hr
    | cons t l =>
      cases hr
      refine w_mono (hs t l s h) fun fl e' q => ?_
      cases fl with
      | nx =>
        obtain ⟨s', e1, h1⟩ := q
        exact ⟨l, s', rfl, e1, h1⟩
      | ct =>
        obtain ⟨s', e1, h1⟩ := q
        exact ⟨l, s', rfl, e1, h1⟩
      | bk => exact q
      | rt s => exact q
  · rintro e ⟨l, s, hr, rfl, h⟩
    cases l with
    | nil => exact hq s h
    | cons t l => cases hr
/-- a comprehension over l, the slots told by a state -/
theorem w_lcM {S T : Type} {f : D → M (Option D)} {X : Exn → Env → Prop} (g : T → D) (E : S → Env) (I : List T → List D → S → Prop) {l : List T} (s0 : S) {Q : List D → Env → Prop} (h0 : I l [] s0)
    (hs : ∀ t rest acc s, I (t :: rest) acc s → wpR (f (g t) (E s)) (fun y e' => ∃ s', e' = E s' ∧ I rest (acc ++ y.toList) s') NE) (hq : ∀ ys s, I [] ys s → Q ys (E s)) : wpR (noEx (lcLoop f (l.map g)) (E s0)) Q X := by
  refine w_lc (fun rest acc e => ∃ l s, rest = l.map g ∧ e = E s ∧ I l acc s) ⟨l, s0, rfl, rfl, h0⟩ ?_ ?_
  · rintro x rest acc e ⟨l, s, hr, rfl, h⟩
    cases l with
    | nil => cases hr
    | cons t l =>
      cases hr
      refine w_mono (hs t l acc s h) ?_
      rintro y e' ⟨s', e1, h1⟩
      exact ⟨l, s', rfl, e1, h1⟩
  · rintro ys e ⟨l, s, hr, rfl, h⟩
    cases l with
    | nil => exact hq ys s h
    | cons t l => cases hr
/-- .. every turn leaves the slots as they were -/
theorem w_lcMM {T : Type} {f : D → M (Option D)} {X : Exn → Env → Prop} (g : T → D) (h : T → Option D) {l : List T} {Q : List D → Env → Prop} (hs : ∀ t ∈ l, wpR (f (g t) e) (fun y e' => y = h t ∧ e' = e) NE) (q : Q (l.filterMap h) e) : wpR (noEx (lcLoop f (l.map g)) e) Q X := by
  refine w_lc (fun rest acc e' => e' = e ∧ ∃ r, rest = List.map g r ∧ (∀ t ∈ r, t ∈ l) ∧ acc ++ r.filterMap h = l.filterMap h) ⟨rfl, l, rfl, fun _ z => z, rfl⟩ ?_ ?_
  · rintro x rest acc e' ⟨rfl, r, hr, hm, ha⟩
    cases r with
    | nil => cases hr
    | cons t r =>
      cases hr
      refine w_mono (hs t (hm t (List.mem_cons_self ..))) ?_
      rintro y e2 ⟨rfl, rfl⟩
      refine ⟨rfl, r, rfl, fun z hz => hm z (List.mem_cons_of_mem _ hz), ?_⟩
      rw [← ha, List.filterMap_cons]
      cases h t <;> simp
  · rintro ys e' ⟨rfl, r, hr, _, ha⟩
    cases r with
    | cons t r => cases hr
    | nil =>
      rw [List.filterMap_nil, List.append_nil] at ha
      rw [ha]
      exact q
/-- such a list is a map -/
theorem range_map (lo : Int) (n : Nat) : rangeD lo n = (List.range n).map (fun (k : Nat) => PyData.int (lo + (k : Int))) := rfl
theorem w_whl {c : M Bool} {f : M Fl} {X : Exn → Env → Prop} (I : Nat → Env → Prop) {fuel k : Nat} {Q : Fl → Env → Prop} (h0 : I k e) (hk : k < fuel)
    (hs : ∀ k e, I k e → wpR (c e) (fun b e1 => if b = true then wpR (f e1) (fun fl e' => match fl with
      | .nx => ∃ j, j < k ∧ I j e'
      | .ct => ∃ j, j < k ∧ I j e'
      | .bk => Q .nx e'
      | .rt s => Q (.rt s) e') NE else Q .nx e1) NE) : wpR (whlLoop c f fuel e) Q X := by
  have key : ∀ (fuel k : Nat) (e : Env), I k e → k < fuel → wpR (whlLoop c f fuel e) Q NE := by
    intro fuel
    induction fuel with
    | zero => exact fun k e _ h => absurd h (Nat.not_lt_zero _)
    | succ n ih =>
      intro k e h hk
      simp only [whlLoop, w_bind]
      refine w_mono (hs k e h) fun b e1 h1 => ?_
      cases b with
      | false =>
        simp only [Bool.false_eq_true, if_false] at h1 ⊢
        exact h1
      | true =>
        simp only [if_true, w_bind] at h1 ⊢
        refine w_mono h1 fun fl e2 h2 => ?_
        cases fl with
        | nx =>
          obtain ⟨j, hj, h2⟩ := h2
          exact ih j e2 h2 (by omega)
        | ct =>
          obtain ⟨j, hj, h2⟩ := h2
          exact ih j e2 h2 (by omega)
        | bk => exact h2
        | rt s => exact h2
  exact w_mono (key fuel k e h0 hk) fun _ _ z => z
def popD (p : D → Bool) : List D → List D
  | [] => []
  | d :: ds => match popD p ds with
    | [] => if p d = true then [] else [d]
    | r => d :: r
theorem popD_snoc (p : D → Bool) (d : D) : ∀ ds : List D, popD p (ds ++ [d]) = if p d = true then popD p ds else ds ++ [d]
  | [] => by
    show (match popD p [] with | [] => if p d = true then [] else [d] | r => d :: r) = _
    rfl
  | c :: ds => by
    show (match popD p (ds ++ [d]) with | [] => if p c = true then [] else [c] | r => c :: r) = _
    rw [popD_snoc p d ds]
    by_cases h : p d = true
    · rw [if_pos h, if_pos h]
      rfl
    · rw [if_neg h, if_neg h]
      cases ds <;> rfl
def lastIs (p : D → Bool) (ds : List D) : Bool := match ds.getLast? with
  | some d => p d
  | none => false
theorem w_pop {c : M Bool} {f : M Fl} {fuel i : Nat} {p : D → Bool} {ds : List D} {Q : Fl → Env → Prop} {X : Exn → Env → Prop} (he : e[i]? = some (some (.own (.list ds)))) (hk : ds.length < fuel)
    (hc : ∀ cs, (∀ d ∈ cs, d ∈ ds) → wpR (c (e.set i (some (.own (.list cs))))) (fun b e1 => e1 = e.set i (some (.own (.list cs))) ∧ b = lastIs p cs) NE)
    (hf : ∀ ds d, wpR (f (e.set i (some (.own (.list (ds ++ [d])))))) (fun fl e1 => fl = .nx ∧ e1 = e.set i (some (.own (.list ds)))) NE)
    (q : Q .nx (e.set i (some (.own (.list (popD p ds)))))) : wpR (whlLoop c f fuel e) Q X := by
  have e0 : e.set i (some (.own (.list ds))) = e := by
    obtain ⟨hl, h⟩ := List.getElem?_eq_some_iff.mp he
    rw [← h]
    exact List.set_getElem_self hl
  refine w_whl (fun k e' => ∃ cs : List D, cs.length = k ∧ e' = e.set i (some (.own (.list cs))) ∧ popD p cs = popD p ds ∧ ∀ d ∈ cs, d ∈ ds) ⟨ds, rfl, e0.symm, rfl, fun _ z => z⟩ hk ?_
  rintro k e' ⟨cs, rfl, rfl, hp, hm⟩
  refine w_mono (hc cs hm) ?_
  rintro b e1 ⟨rfl, rfl⟩
  rcases List.eq_nil_or_concat cs with rfl | ⟨r, d, rfl⟩
  · show if lastIs p [] = true then _ else _
    rw [show lastIs p [] = false from rfl]
    simp only [Bool.false_eq_true, if_false]
    rw [show popD p [] = [] from rfl] at hp
    rw [hp]
    exact q
  · have hl : lastIs p (r.concat d) = p d := by
      unfold lastIs
      simp
    rw [hl]
    have hs : r.concat d = r ++ [d] := by simp
    rw [hs] at hp hm ⊢
    rw [popD_snoc] at hp
    by_cases h : p d = true
    · rw [if_pos h]
      rw [if_pos h] at hp
      refine w_mono (hf r d) ?_
      rintro fl e2 ⟨rfl, rfl⟩
      exact ⟨r.length, by simp, r, rfl, rfl, hp, fun z hz => hm z (List.mem_append_left _ hz)⟩
    · rw [if_neg h]
      rw [if_neg h] at hp
      rw [hp]
      exact q
def mI (f : Int → Int) : D → Option D
  | .int k => some (.int (f k))
  | _ => none
theorem fm_mI (f : Int → Int) : ∀ ns : List Int, (ns.map PyData.int).filterMap (mI f) = (ns.map f).map .int
  | [] => rfl
  | n :: ns => by
    rw [List.map_cons, List.filterMap_cons]
    show (PyData.int (f n)) :: _ = _
    rw [fm_mI f ns]
    rfl
def isZ : D → Bool
  | .int k => k == 0
  | _ => false
def isE : D → Bool
  | .tuple [] => true
  | _ => false
theorem w_call {f : Str} {ts : List TV} {ms : List Bool} {ss : List Sl} {e1 : Env} {Q : TV → Env → Prop} {X : Exn → Env → Prop} {QF : Sl → List Sl → Prop} (hm : sg.modes.lookup f = some ms) (hp : pass pins ms ts e = .ok ss e1) (hc : wpF (call f ss) QF)
    (k : ∀ s fin, QF s fin → wpR ((do back ms ts fin; no2 s; M.pure (TV.val s)) e1) Q X) : wpR (callM sg call pins f ts e) Q X := by
  unfold callM
  simp only [w_bind, w_lift]
  refine ⟨ms, hm, ?_⟩
  rw [hp, w_ok]
  obtain ⟨s, fin, e2, q⟩ := wpF_get hc
  simp only [e2]
  exact k s fin q
end
@[simp] theorem b_add {i j : Int} : binD .add (.int i) (.int j) = some (.imm (.int (i + j))) := rfl
@[simp] theorem b_sub {i j : Int} : binD .sub (.int i) (.int j) = some (.imm (.int (i - j))) := rfl
theorem b_mod {i j : Int} (h : j ≠ 0) : binD .mod (.int i) (.int j) = some (.imm (.int (i.fmod j))) := by
  simp [binD, binI, h]
theorem b_div {i j : Int} (h : j ≠ 0) (h2 : j.natAbs < 1073741824) : binD .div (.int i) (.int j) = some (.imm (.int (i.fdiv j))) := by
  simp [binD, binI, h, h2]
theorem b_mulL {i j : Int} (h : -(2 ^ 64) < i) (h2 : i < 2 ^ 64) : binD .mul (.int i) (.int j) = some (.imm (.int (i * j))) := by
  simp only [binD, binI]
  rw [if_pos (.inl (.inl ⟨h, h2⟩))]
  rfl
theorem b_mulR {i j : Int} (h : -(2 ^ 64) < j) (h2 : j < 2 ^ 64) : binD .mul (.int i) (.int j) = some (.imm (.int (i * j))) := by
  simp only [binD, binI]
  rw [if_pos (.inl (.inr ⟨h, h2⟩))]
  rfl
theorem b_rep {xs : List D} {k : Nat} (h : k ≤ 100000) (h2 : xs.length * k ≤ lim) : binD .mul (.list xs) (.int (k : Int)) = some (.own (.list (List.replicate k xs).flatten)) := by
  show (if (k : Int) ≤ 100000 ∧ -100000 ≤ (k : Int) ∧ xs.length * (k : Int).toNat ≤ lim then some (Sl.own (.list (List.replicate (k : Int).toNat xs).flatten)) else none) = _
  rw [if_pos ⟨by omega, by omega, by simpa using h2⟩]
  simp
@[simp] theorem c_lt {i j : Int} : cmpD .lt (.int i) (.int j) = some (decide (i < j)) := rfl
@[simp] theorem c_le {i j : Int} : cmpD .le (.int i) (.int j) = some (decide (i ≤ j)) := rfl
@[simp] theorem c_gt {i j : Int} : cmpD .gt (.int i) (.int j) = some (decide (j < i)) := rfl
@[simp] theorem c_ge {i j : Int} : cmpD .ge (.int i) (.int j) = some (decide (j ≤ i)) := rfl
@[simp] theorem c_eqI {i j : Int} : cmpD .eq (.int i) (.int j) = some (i == j) := rfl
@[simp] theorem c_neI {i j : Int} : cmpD .ne (.int i) (.int j) = some (!(i == j)) := rfl
@[simp] theorem at_0 {d : D} {ds : List D} : atD (d :: ds) 0 = some d := by
  simp [atD, L2.atI, L2.ixN]
theorem at_1 {c d : D} {ds : List D} : atD (c :: d :: ds) 1 = some d := by
  have h : (1 : Int) < ((c :: d :: ds).length : Int) := by
    simp only [List.length_cons]
    omega
  unfold atD L2.atI L2.ixN
  rw [if_pos (by decide), if_pos h]
  rfl
theorem at_2 {b c d : D} {ds : List D} : atD (b :: c :: d :: ds) 2 = some d := by
  have h : (2 : Int) < ((b :: c :: d :: ds).length : Int) := by
    simp only [List.length_cons]
    omega
  unfold atD L2.atI L2.ixN
  rw [if_pos (by decide), if_pos h]
  rfl
theorem ix_nat {n : Nat} {i : Int} {k : Nat} (e : i = (k : Int)) (h : k < n) : L2.ixN n i = some k := by
  subst e
  unfold L2.ixN
  rw [if_pos (by omega), if_pos (by omega)]
  rfl
theorem at_nat {ds : List D} {i : Int} {d : D} (h0 : 0 ≤ i) (h : ds[i.toNat]? = some d) : atD ds i = some d := by
  have hl := (List.getElem?_eq_some_iff.mp h).1
  unfold atD L2.atI L2.ixN
  rw [if_pos h0, if_pos (by omega)]
  exact h
@[simp] theorem at_last {ds : List D} {d : D} : atD (ds ++ [d]) (-1) = some d := by
  unfold atD L2.atI L2.ixN
  rw [if_neg (by decide), if_pos (by simp only [List.length_append, List.length_singleton]; omega)]
  have e : ((-1 : Int) + ((ds ++ [d]).length : Int)).toNat = ds.length := by
    simp only [List.length_append, List.length_singleton]
    omega
  show (ds ++ [d])[((-1 : Int) + ((ds ++ [d]).length : Int)).toNat]? = _
  rw [e]
  simp
@[simp] theorem l_lenL {xs : List D} : biD .len [.list xs] = some (.imm (.int xs.length)) := rfl
@[simp] theorem l_lenT {xs : List D} : biD .len [.tuple xs] = some (.imm (.int xs.length)) := rfl
@[simp] theorem l_tupL {xs : List D} : biD .tuple [.list xs] = some (.imm (.tuple xs)) := rfl
@[simp] theorem l_listT {xs : List D} : biD .list [.tuple xs] = some (.own (.list xs)) := rfl
@[simp] theorem l_listL {xs : List D} : biD .list [.list xs] = some (.own (.list xs)) := rfl
@[simp] theorem l_max {i j : Int} : biD .max [.int i, .int j] = some (.imm (.int (if j > i then j else i))) := rfl
@[simp] theorem l_intB {b : Bool} : biD .int [.bool b] = some (.imm (.int (if b = true then 1 else 0))) := rfl
end Ev
end
section
namespace Ev
open PySem
@[irreducible] def WPX {α : Type} (EX : Exn → Env → Prop) (r : Res α) (Q : α → Env → Prop) : Prop := wpR r Q EX
theorem WPX_iff {α : Type} {EX : Exn → Env → Prop} {r : Res α} {Q : α → Env → Prop} : WPX EX r Q ↔ wpR r Q EX := by
  unfold WPX
  exact Iff.rfl
theorem WP_iff {α : Type} {r : Res α} {Q : α → Env → Prop} : WPX NE r Q ↔ wpR r Q NE := WPX_iff
theorem WF_run {sg : Sig} {call : Call} {ms : List Bool} {d : Def} {ss : List Sl} {Q : Sl → List Sl → Prop} (hl : ss.length = ms.length)
    (h : WPX NE ((den sg call (pinsOf ms 0) d.body).S (ss.map some ++ List.replicate (d.slots - ss.length) none)) (endQ ms Q)) : wpF (runDef sg call ms d ss) Q := wpF_run hl (WP_iff.mp h)
theorem WF_un {sg : Sig} {call : Call} {ms : List Bool} {d : Def} {ss : List Sl} {Q : Sl → List Sl → Prop} {r : FR} (e : r = runDef sg call ms d ss) (hl : (ss.length == ms.length) = true)
    (h : WPX NE ((den sg call (pinsOf ms 0) d.body).S (ss.map some ++ List.replicate (d.slots - ss.length) none)) (endQ ms Q)) : wpF r Q := by
  rw [e]
  exact WF_run (by simpa using hl) h
section
variable {sg : Sig} {call : Call} {pins : List Nat} {e : Env} {α β : Type} {EX : Exn → Env → Prop}
@[simp] theorem W_bind {m : M α} {f : α → M β} {R : β → Env → Prop} : WPX EX ((m >>= f) e) R ↔ WPX EX (m e) (fun a e' => WPX EX (f a e') R) := by
  simp only [WPX_iff]
  exact w_bind
@[simp] theorem W_ok {a : α} {Q : α → Env → Prop} : WPX EX (.ok a e) Q ↔ Q a e := by
  simp only [WPX_iff]
  exact w_ok
@[simp] theorem W_pure {a : α} {Q : α → Env → Prop} : WPX EX (M.pure a e) Q ↔ Q a e := by
  simp only [WPX_iff]
  exact w_pure
@[simp] theorem W_bad {Q : α → Env → Prop} : WPX EX (badM e) Q ↔ False := by
  simp only [WPX_iff]
  exact w_bad
@[simp] theorem W_lift {o : Option α} {Q : α → Env → Prop} : WPX EX (liftO o e) Q ↔ ∃ a, o = some a ∧ Q a e := by
  simp only [WPX_iff]
  exact w_lift
@[simp] theorem W_get {i : Nat} {Q : Sl → Env → Prop} : WPX EX (getS i e) Q ↔ ∃ s, e[i]? = some (some s) ∧ Q s e := by
  simp only [WPX_iff]
  exact w_get
@[simp] theorem W_put {i : Nat} {s : Option Sl} {Q : Unit → Env → Prop} : WPX EX (putS i s e) Q ↔ Q () (e.set i s) := by
  simp only [WPX_iff]
  exact w_put
@[simp] theorem W_if {c : Prop} [Decidable c] {m k : M α} {Q : α → Env → Prop} : WPX EX ((if c then m else k) e) Q ↔ (c → WPX EX (m e) Q) ∧ (¬ c → WPX EX (k e) Q) := by
  simp only [WPX_iff]
  exact w_if
@[simp high] theorem W_ifb {c : Prop} [Decidable c] {m : M α} {Q : α → Env → Prop} : WPX EX ((if c then m else badM) e) Q ↔ c ∧ WPX EX (m e) Q := by
  simp only [WPX_iff]
  exact w_ifb
@[simp] theorem W_var {i : Nat} {Q : TV → Env → Prop} : WPX EX ((match e[i]? with | some (some _) => Res.ok (TV.ref i) e | _ => Res.bad)) Q ↔ (∃ s, e[i]? = some (some s)) ∧ Q (.ref i) e := by
  simp only [WPX_iff]
  exact w_var
@[simp] theorem W_fzr {i : Nat} {Q : TV → Env → Prop} : WPX EX (fz (.ref i) e) Q ↔ Q (.ref i) e := by
  simp only [WPX_iff]
  exact w_fzr
@[simp] theorem W_fzi {d : D} {Q : TV → Env → Prop} : WPX EX (fz (.val (.imm d)) e) Q ↔ Q (.val (.imm d)) e := by
  simp only [WPX_iff]
  exact w_fzi
@[simp] theorem W_fzo {ds : List D} {Q : TV → Env → Prop} : WPX EX (fz (.val (.own (.list ds))) e) Q ↔ Q (.val (.imm (.list ds))) e := by
  simp only [WPX_iff]
  exact w_fzo
@[simp] theorem W_looki {d : D} {Q : D → Env → Prop} : WPX EX (look (.val (.imm d)) e) Q ↔ Q d e := by
  simp only [WPX_iff]
  exact w_looki
@[simp] theorem W_lookr {i : Nat} {Q : D → Env → Prop} : WPX EX (look (.ref i) e) Q ↔ ∃ s, e[i]? = some (some s) ∧ ∃ d, s.data = some d ∧ Q d e := by
  simp only [WPX_iff]
  exact w_lookr
@[simp] theorem W_inti {d : D} {Q : Int → Env → Prop} : WPX EX (intOf (.val (.imm d)) e) Q ↔ ∃ k, d = .int k ∧ Q k e := by
  simp only [WPX_iff]
  exact w_inti
@[simp] theorem W_intr {i : Nat} {Q : Int → Env → Prop} : WPX EX (intOf (.ref i) e) Q ↔ ∃ s, e[i]? = some (some s) ∧ ∃ k, s.data = some (.int k) ∧ Q k e := by
  simp only [WPX_iff]
  exact w_intr
@[simp] theorem W_booli {d : D} {Q : Bool → Env → Prop} : WPX EX (boolOf (.val (.imm d)) e) Q ↔ ∃ k, d = .bool k ∧ Q k e := by
  simp only [WPX_iff]
  exact w_booli
@[simp] theorem W_toi {d : D} {Q : Sl → Env → Prop} : WPX EX (toStore pins (.val (.imm d)) e) Q ↔ Q (.imm d) e := by
  simp only [WPX_iff]
  exact w_toi
@[simp] theorem W_too {d : D} {Q : Sl → Env → Prop} : WPX EX (toStore pins (.val (.own d)) e) Q ↔ Q (.own d) e := by
  simp only [WPX_iff]
  exact w_too
@[simp] theorem W_shi {d : D} {Q : D → Env → Prop} : WPX EX (shareD pins (.val (.imm d)) e) Q ↔ Q d e := by
  simp only [WPX_iff]
  exact w_shi
@[simp] theorem W_sti {i : Nat} {s : Sl} {Q : Unit → Env → Prop} : WPX EX (store pins i s e) Q ↔ (pins.contains i = false ∧ i < e.length) ∧ Q () (e.set i (some s)) := by
  simp only [WPX_iff]
  exact w_sti
@[simp] theorem W_noSt {i : Nat} {s : Sl} {Q : Unit → Env → Prop} : WPX EX (noEx (store pins i s) e) Q ↔ (pins.contains i = false ∧ i < e.length) ∧ Q () (e.set i (some s)) := by
  simp only [WPX_iff]
  exact w_noSt
@[simp] theorem W_share {i : Nat} {Q : D → Env → Prop} : WPX EX (shareD pins (.ref i) e) Q ↔ ∃ s, e[i]? = some (some s) ∧ shQ pins i e Q s := by
  simp only [WPX_iff]
  exact w_share
@[simp] theorem W_kn {Q : Unit → Env → Prop} : WPX EX (kills pins [] e) Q ↔ Q () e := by
  simp only [WPX_iff]
  exact w_kn
@[simp] theorem W_kc {i : Nat} {r : List Nat} {Q : Unit → Env → Prop} : WPX EX (kills pins (i :: r) e) Q ↔ pins.contains i = false ∧ WPX EX (kills pins r (e.set i none)) Q := by
  simp only [WPX_iff]
  exact w_kc
@[simp] theorem W_lkn {Q : List D → Env → Prop} : WPX EX (looks [] e) Q ↔ Q [] e := by
  simp only [WPX_iff]
  exact w_lkn
@[simp] theorem W_lkc {t : TV} {ts : List TV} {Q : List D → Env → Prop} : WPX EX (looks (t :: ts) e) Q ↔ WPX EX (look t e) (fun d e1 => WPX EX (looks ts e1) (fun ds e2 => Q (d :: ds) e2)) := by
  simp only [WPX_iff]
  exact w_lkc
@[simp] theorem W_shn {Q : List D → Env → Prop} : WPX EX (shareDs pins [] e) Q ↔ Q [] e := by
  simp only [WPX_iff]
  exact w_shn
@[simp] theorem W_shc {t : TV} {ts : List TV} {Q : List D → Env → Prop} : WPX EX (shareDs pins (t :: ts) e) Q ↔ WPX EX (shareD pins t e) (fun d e1 => WPX EX (shareDs pins ts e1) (fun ds e2 => Q (d :: ds) e2)) := by
  simp only [WPX_iff]
  exact w_shc
@[simp] theorem W_tor {i : Nat} {Q : Sl → Env → Prop} {d : D} (h : e[i]? = some (some (.imm d))) : WPX EX (toStore pins (.ref i) e) Q ↔ Q (.imm d) e := by
  simp only [WPX_iff]
  exact w_tor h
@[simp] theorem W_isL {ds : List D} {Q : Unit → Env → Prop} : WPX EX (isL (.own (.list ds)) e) Q ↔ Q () e := by
  simp only [WPX_iff]
  exact w_isL
@[simp] theorem W_isL2 {ds : List (List D)} {Q : Unit → Env → Prop} : WPX EX (isL2 (.own2 ds) e) Q ↔ Q () e := by
  simp only [WPX_iff]
  exact w_isL2
@[simp] theorem W_no2i {d : D} {Q : Unit → Env → Prop} : WPX EX (no2 (.imm d) e) Q ↔ Q () e := by
  simp only [WPX_iff]
  exact w_no2i
@[simp] theorem W_no2o {d : D} {Q : Unit → Env → Prop} : WPX EX (no2 (.own d) e) Q ↔ Q () e := by
  simp only [WPX_iff]
  exact w_no2o
theorem W_mono {r : Res α} {Q Q' : α → Env → Prop} (h : WPX EX r Q) (k : ∀ a e, Q a e → Q' a e) : WPX EX r Q' := WPX_iff.mpr (wpR_mono (WPX_iff.mp h) k fun _ _ z => z)
theorem W_noEx {m : M α} {Q : α → Env → Prop} (h : WPX NE (m e) Q) : WPX EX (noEx m e) Q := WPX_iff.mpr (w_noEx (WPX_iff.mp h))
/-- what a turn of a walk leaves -/
def stepQ {S : Type} (E : S → Env) (I : S → Prop) (Q : Fl → Env → Prop) : Fl → Env → Prop
  | .nx, e' => ∃ s', e' = E s' ∧ I s'
  | .ct, e' => ∃ s', e' = E s' ∧ I s'
  | .bk, e' => Q .nx e'
  | .rt s, e' => Q (.rt s) e'
@[simp] theorem stepQ_nx {S : Type} {E : S → Env} {I : S → Prop} {Q : Fl → Env → Prop} {e' : Env} : stepQ E I Q .nx e' ↔ ∃ s', e' = E s' ∧ I s' := Iff.rfl
@[simp] theorem stepQ_ct {S : Type} {E : S → Env} {I : S → Prop} {Q : Fl → Env → Prop} {e' : Env} : stepQ E I Q .ct e' ↔ ∃ s', e' = E s' ∧ I s' := Iff.rfl
@[simp] theorem stepQ_bk {S : Type} {E : S → Env} {I : S → Prop} {Q : Fl → Env → Prop} {e' : Env} : stepQ E I Q .bk e' ↔ Q .nx e' := Iff.rfl
@[simp] theorem stepQ_rt {S : Type} {E : S → Env} {I : S → Prop} {Q : Fl → Env → Prop} {e' : Env} {s : Sl} : stepQ E I Q (.rt s) e' ↔ Q (.rt s) e' := Iff.rfl
theorem W_for {S T : Type} {f : D → M Fl} (g : T → D) (E : S → Env) (I : List T → S → Prop) {l : List T} (s0 : S) {Q : Fl → Env → Prop} (h0 : I l s0)
    (hs : ∀ t rest s, I (t :: rest) s → WPX EX (f (g t) (E s)) (stepQ E (I rest) Q)) (hq : ∀ s, I [] s → Q .nx (E s)) : WPX EX (forLoop f (l.map g) (E s0)) Q := by
  induction l generalizing s0 with
  | nil => exact W_pure.mpr (hq s0 h0)
  | cons t rest ih =>
    show WPX EX ((f (g t) >>= fun r => match r with
      | .nx => forLoop f (rest.map g)
      | .ct => forLoop f (rest.map g)
      | .bk => M.pure .nx
      | .rt s => M.pure (.rt s)) (E s0)) Q
    rw [W_bind]
    refine W_mono (hs t rest s0 h0) fun fl e1 h1 => ?_
    cases fl with
    | nx =>
      obtain ⟨s', rfl, h'⟩ := h1
      exact ih s' h'
    | ct =>
      obtain ⟨s', rfl, h'⟩ := h1
      exact ih s' h'
    | bk => exact W_pure.mpr h1
    | rt s => exact W_pure.mpr h1
theorem W_lc {S T : Type} {f : D → M (Option D)} (g : T → D) (E : S → Env) (I : List T → List D → S → Prop) {l : List T} (s0 : S) {Q : List D → Env → Prop} (h0 : I l [] s0)
    (hs : ∀ t rest acc s, I (t :: rest) acc s → WPX NE (f (g t) (E s)) (fun y e' => ∃ s', e' = E s' ∧ I rest (acc ++ y.toList) s')) (hq : ∀ ys s, I [] ys s → Q ys (E s)) : WPX EX (noEx (lcLoop f (l.map g)) (E s0)) Q :=
  WPX_iff.mpr (w_lcM g E I s0 h0 (fun t rest acc s h => WPX_iff.mp (hs t rest acc s h)) hq)
theorem W_lcM {T : Type} {f : D → M (Option D)} (g : T → D) (h : T → Option D) {l : List T} {Q : List D → Env → Prop} (hs : ∀ t ∈ l, WPX NE (f (g t) e) (fun y e' => y = h t ∧ e' = e)) (q : Q (l.filterMap h) e) : WPX EX (noEx (lcLoop f (l.map g)) e) Q :=
  WPX_iff.mpr (w_lcMM g h (fun t ht => WPX_iff.mp (hs t ht)) q)
theorem W_pop {c : M Bool} {f : M Fl} {fuel i : Nat} {p : D → Bool} {ds : List D} {Q : Fl → Env → Prop} (he : e[i]? = some (some (.own (.list ds)))) (hk : ds.length < fuel)
    (hc : ∀ cs, (∀ d ∈ cs, d ∈ ds) → WPX NE (c (e.set i (some (.own (.list cs))))) (fun b e1 => e1 = e.set i (some (.own (.list cs))) ∧ b = lastIs p cs))
    (hf : ∀ ds d, WPX NE (f (e.set i (some (.own (.list (ds ++ [d])))))) (fun fl e1 => fl = .nx ∧ e1 = e.set i (some (.own (.list ds)))))
    (q : Q .nx (e.set i (some (.own (.list (popD p ds)))))) : WPX EX (whlLoop c f fuel e) Q :=
  WPX_iff.mpr (w_pop he hk (fun cs h => WPX_iff.mp (hc cs h)) (fun ds d => WPX_iff.mp (hf ds d)) q)
theorem W_call {f : Str} {ts : List TV} {ms : List Bool} {ss : List Sl} {e1 : Env} {Q : TV → Env → Prop} {QF : Sl → List Sl → Prop} (hm : sg.modes.lookup f = some ms) (hp : pass pins ms ts e = .ok ss e1) (hc : wpF (call f ss) QF)
    (k : ∀ s fin, QF s fin → WPX EX ((do back ms ts fin; no2 s; M.pure (TV.val s)) e1) Q) : WPX EX (callM sg call pins f ts e) Q :=
  WPX_iff.mpr (w_call hm hp hc fun s fin h => WPX_iff.mp (k s fin h))
end
end Ev
end
section
namespace Ev
open PySem
section
variable {sg : Sig} {call : Call} {pins : List Nat} {e : Env} {α β : Type} {EX : Exn → Env → Prop}
theorem W_nx {m : M α} {Q : α → Env → Prop} : WPX EX (noEx m e) Q ↔ WPX NE (m e) Q := by
  simp only [WPX_iff]
  unfold noEx
  cases q : m e with
  | ok a e' => exact Iff.rfl
  | ex x e' => exact Iff.rfl
  | bad => exact Iff.rfl
theorem rowsOf_map : ∀ rows : List (List D), rowsOf (rows.map .list) = some rows
  | [] => rfl
  | r :: rows => by
    show (rowsOf (rows.map .list)).map (r :: ·) = _
    rw [rowsOf_map rows]
    rfl
@[simp] theorem W_newL {ds : List D} {Q : D → Env → Prop} : WPX EX (newL (.val (.own (.list ds))) e) Q ↔ Q (.list ds) e := W_pure
/-- a table whose turns leave the slots as they were -/
theorem W_tbl {T : Type} {vs : List Nat} {it : M (List D)} {g : D → M Unit} {cond : M Bool} {body : M TV} {xs : T → D} {l : List T} (h : T → List D) {e0 : Env} {Q : List (List D) → Env → Prop}
    (hit : WPX EX (it e) (fun ds e1 => ds = l.map xs ∧ WPX EX (kills pins vs e1) (fun _ e2 => e2 = e0)))
    (hs : ∀ t ∈ l, WPX NE (g (xs t) e0) (fun _ e1 => WPX NE (cond e1) (fun b e2 => b = true ∧ WPX NE (body e2) (fun tv e3 => WPX NE (newL tv e3) (fun d e4 => d = .list (h t) ∧ WPX NE (kills pins vs e4) (fun _ e5 => e5 = e0))))))
    (hl : l.length < lim) (q : Q (l.map h) e0) : WPX EX (tblM pins vs it g cond body e) Q := by
  unfold tblM
  rw [W_bind]
  refine W_mono hit ?_
  rintro ds e1 ⟨rfl, hk⟩
  rw [W_bind]
  refine W_mono hk ?_
  rintro _ e2 rfl
  rw [W_bind]
  refine W_lcM xs (fun t => some (.list (h t))) ?_ ?_
  · intro t ht
    rw [W_bind]
    refine W_mono (hs t ht) ?_
    intro _ e1 h1
    rw [W_bind]
    refine W_mono h1 ?_
    rintro b e2' ⟨rfl, h2⟩
    rw [if_pos rfl, W_bind, W_bind]
    refine W_mono h2 ?_
    intro tv e3 h3
    rw [W_bind]
    refine W_mono h3 ?_
    rintro d e4 ⟨rfl, h4⟩
    rw [W_pure, W_bind]
    refine W_mono h4 ?_
    rintro _ e5 rfl
    rw [W_pure]
    exact ⟨rfl, rfl⟩
  · have e3 : l.filterMap (fun t => some (PyData.list (h t))) = (l.map h).map .list := by simp
    rw [e3, W_bind, W_lift]
    refine ⟨_, rowsOf_map _, ?_⟩
    rw [if_pos (by simpa using hl), W_pure]
    exact q
/-- what comes behind a statement -/
def cq (P : Env → Prop) (Q : Fl → Env → Prop) : Fl → Env → Prop
  | .nx, e => P e
  | .bk, e => Q .bk e
  | .ct, e => Q .ct e
  | .rt s, e => Q (.rt s) e
@[simp] theorem cq_nx {P : Env → Prop} {Q : Fl → Env → Prop} : cq P Q .nx e ↔ P e := Iff.rfl
@[simp] theorem cq_bk {P : Env → Prop} {Q : Fl → Env → Prop} : cq P Q .bk e ↔ Q .bk e := Iff.rfl
@[simp] theorem cq_ct {P : Env → Prop} {Q : Fl → Env → Prop} : cq P Q .ct e ↔ Q .ct e := Iff.rfl
@[simp] theorem cq_rt {P : Env → Prop} {Q : Fl → Env → Prop} {s : Sl} : cq P Q (.rt s) e ↔ Q (.rt s) e := Iff.rfl
/-- a block, not opened -/
@[irreducible] def RSX (EX : Exn → Env → Prop) (sg : Sig) (call : Call) (pins : List Nat) (r : C) (Q : Fl → Env → Prop) (e : Env) : Prop := WPX EX ((den sg call pins r).S e) Q
theorem RS_iff {r : C} {Q : Fl → Env → Prop} : RSX EX sg call pins r Q e ↔ WPX EX ((den sg call pins r).S e) Q := by
  unfold RSX
  exact Iff.rfl
/-- a block begins with this statement -/
theorem S_go {a r : C} {Q : Fl → Env → Prop} (h : WPX EX ((den sg call pins a).S e) (cq (RSX EX sg call pins r Q) Q)) : RSX EX sg call pins (.sCons a r) Q e := by
  rw [RS_iff]
  show WPX EX (((den sg call pins a).S >>= fun f => match f with | .nx => (den sg call pins r).S | f => M.pure f) e) Q
  rw [W_bind]
  refine W_mono h ?_
  intro fl e1 h1
  cases fl with
  | nx => exact RS_iff.mp h1
  | bk => exact W_pure.mpr h1
  | ct => exact W_pure.mpr h1
  | rt s => exact W_pure.mpr h1
/-- .. behind which this is so -/
theorem S_cut {a r : C} {Q : Fl → Env → Prop} (P : Env → Prop) (h : WPX EX ((den sg call pins a).S e) (cq P Q)) (k : ∀ e1, P e1 → RSX EX sg call pins r Q e1) : RSX EX sg call pins (.sCons a r) Q e := by
  refine S_go (W_mono h ?_)
  intro fl e1 h1
  cases fl with
  | nx => exact k e1 h1
  | bk => exact h1
  | ct => exact h1
  | rt s => exact h1
theorem S_nil {Q : Fl → Env → Prop} (h : Q .nx e) : RSX EX sg call pins .sNil Q e := by
  rw [RS_iff]
  exact W_pure.mpr h
theorem S_blk {r : C} {Q : Fl → Env → Prop} (h : RSX EX sg call pins r Q e) : WPX EX ((den sg call pins r).S e) Q := RS_iff.mp h
theorem WF_unS {ms : List Bool} {d : Def} {ss : List Sl} {Q : Sl → List Sl → Prop} {r : FR} (e : r = runDef sg call ms d ss) (hl : (ss.length == ms.length) = true)
    (h : RSX NE sg call (pinsOf ms 0) d.body (endQ ms Q) (ss.map some ++ List.replicate (d.slots - ss.length) none)) : wpF r Q := WF_un e hl (S_blk h)
/-- a walk whose body is a block -/
theorem W_forS {S T : Type} {tg it body : C} (g : T → D) (E : S → Env) (I : List T → S → Prop) {l : List T} (s0 : S) {Q : Fl → Env → Prop} (hi : WPX EX ((den sg call pins it).I e) (fun ds e1 => ds = l.map g ∧ e1 = E s0)) (h0 : I l s0)
    (hs : ∀ t rest s, I (t :: rest) s → WPX NE ((den sg call pins tg).G (g t) (E s)) (fun _ e1 => RSX EX sg call pins body (stepQ E (I rest) Q) e1)) (hq : ∀ s, I [] s → Q .nx (E s)) : WPX EX ((den sg call pins (.forS tg it body)).S e) Q := by
  show WPX EX (((den sg call pins it).I >>= fun xs => forLoop (fun x => do noEx ((den sg call pins tg).G x); (den sg call pins body).S) xs) e) Q
  rw [W_bind]
  refine W_mono hi ?_
  rintro ds e1 ⟨rfl, rfl⟩
  refine W_for g E I s0 h0 ?_ hq
  intro t rest s h
  rw [W_bind, W_nx]
  exact W_mono (hs t rest s h) fun _ e1 h1 => RS_iff.mp h1
/-- one of two blocks -/
theorem W_ifS {c a b : C} {Q : Fl → Env → Prop} (h : WPX EX ((do let x ← (den sg call pins c).P; boolOf x) e) (fun r e1 => if r = true then RSX EX sg call pins a Q e1 else RSX EX sg call pins b Q e1)) : WPX EX ((den sg call pins (.ifS c a b)).S e) Q := by
  show WPX EX (((den sg call pins c).P >>= fun x => boolOf x >>= fun r => if r = true then (den sg call pins a).S else (den sg call pins b).S) e) Q
  rw [W_bind] at h ⊢
  refine W_mono h ?_
  intro x e1 h1
  rw [W_bind]
  refine W_mono h1 ?_
  intro r e2 h2
  by_cases hr : r = true
  · rw [if_pos hr] at h2 ⊢
    exact RS_iff.mp h2
  · rw [if_neg hr] at h2 ⊢
    exact RS_iff.mp h2
end
end Ev
end
section
namespace Ev
open PySem
theorem okS_app (x y : Str) (hx : PyData.strOk x = true) (hy : PyData.strOk y = true) : PyData.strOk (x ++ y) = true := by
  unfold PyData.strOk at *
  show (x.cps ++ y.cps).all _ = true
  rw [Array.all_append, hx, hy]
  rfl
theorem okS_of (s : String) : PyData.strOk (Str.ofString s) = true := by
  rw [Str.ofString_eq_toList]
  unfold PyData.strOk
  rw [← Array.all_toList]
  refine List.all_eq_true.mpr fun n hn => ?_
  obtain ⟨c, _, rfl⟩ := List.mem_map.mp hn
  have hc : c.val.toNat < 1114112 := by
    rcases c.valid with h | h
    · exact Nat.lt_trans h (by decide)
    · exact h.2
  exact decide_eq_true hc
theorem okS_join : ∀ ts : List Str, (∀ t ∈ ts, PyData.strOk t = true) → PyData.strOk (Str.join ", " ts) = true
  | [], _ => by show PyData.strOk Str.empty = true; decide +kernel
  | [x], h => h x (List.mem_cons_self ..)
  | x :: y :: r, h => okS_app _ _ (okS_app _ _ (h x (List.mem_cons_self ..)) (okS_of ", ")) (okS_join (y :: r) fun t ht => h t (List.mem_cons_of_mem _ ht))
theorem okS_textFrom : ∀ (ts : List Str) (k : Nat) (acc : Str), PyData.strOk acc = true → (∀ t ∈ ts, PyData.strOk t = true) → PyData.strOk (textFrom k acc ts) = true
  | [], _, _, h, _ => h
  | t :: r, k, acc, h, ht => okS_textFrom r (k + 1) _ (okS_app _ _ (okS_app _ _ h (okS_of _)) (ht t (List.mem_cons_self ..))) fun u hu => ht u (List.mem_cons_of_mem _ hu)
theorem okS_list (ts : List Str) (h : ∀ t ∈ ts, PyData.strOk t = true) : PyData.strOk (listText ts) = true := okS_app _ _ (okS_textFrom ts 0 _ (okS_of "[") h) (okS_of "]")
theorem okS_tuple (ts : List Str) (h : ∀ t ∈ ts, PyData.strOk t = true) : PyData.strOk (tupleText ts) = true := okS_app _ _ (okS_app _ _ (okS_of "(") (okS_join ts h)) (okS_of _)
structure Fit (k n : Nat) (d : D) : Prop where
  sh : d.showable = true
  st : PyData.strOk d.shown = true
  nd : d.hasDict = false
  ln : d.shown.length ≤ n
  dp : d.depth ≤ k
theorem Fit.mono {k n k' n' : Nat} {d : D} (h : Fit k n d) (hk : k ≤ k') (hn : n ≤ n') : Fit k' n' d := ⟨h.sh, h.st, h.nd, Nat.le_trans h.ln hn, Nat.le_trans h.dp hk⟩
theorem Fit.int {i : Int} (h : i.natAbs < 10 ^ 60) : Fit 0 61 (.int i) where
  sh := by
    simp only [PyData.showable, decide_eq_true_eq]
    have h2 : i.natAbs < 2 ^ 1920 := Nat.lt_of_lt_of_le h (by decide +kernel)
    by_cases e : i.natAbs = 0
    · rw [e]
      decide
    · exact (Nat.log2_lt e).mpr h2
  st := by
    simp only [PyData.shown]
    exact okS_of _
  nd := by simp only [PyData.hasDict]
  ln := by
    simp only [PyData.shown]
    have := int_text_length_le10 (k := 60) (by decide) h
    rw [← ofString_length] at this
    exact this
  dp := by simp only [PyData.depth]; exact Nat.le_refl _
theorem Fit.non : Fit 0 4 .none := ⟨rfl, by simp only [PyData.shown]; exact okS_of _, by simp only [PyData.hasDict], by simp only [PyData.shown]; decide, by simp only [PyData.depth]; exact Nat.le_refl _⟩
theorem Fit.bl (b : Bool) : Fit 0 5 (.bool b) := ⟨by simp only [PyData.showable], by simp only [PyData.shown]; cases b <;> exact okS_of _, by simp only [PyData.hasDict], by simp only [PyData.shown]; cases b <;> decide, by simp only [PyData.depth]; exact Nat.le_refl _⟩
theorem fit_all {k n : Nat} : ∀ {ds : List D}, (∀ d ∈ ds, Fit k n d) → PyData.showableAll ds = true ∧ PyData.hasDictAll ds = false ∧ piled (PyData.shownAll ds) ≤ ds.length * (n + 2) ∧ PyData.depthAll ds ≤ k ∧ (PyData.shownAll ds).length = ds.length ∧ ∀ t ∈ PyData.shownAll ds, PyData.strOk t = true
  | [], _ => ⟨by simp only [PyData.showableAll], by simp only [PyData.hasDictAll], by simp only [PyData.shownAll, piled_nil]; omega, by simp only [PyData.depthAll]; omega, by simp only [PyData.shownAll, List.length_nil], by simp only [PyData.shownAll]; exact fun _ z => nomatch z⟩
  | d :: ds, h => by
    obtain ⟨h1, h2, h3, h4, h5, h6⟩ := fit_all (ds := ds) fun x hx => h x (List.mem_cons_of_mem _ hx)
    have hd := h d (List.mem_cons_self ..)
    refine ⟨by simp only [PyData.showableAll, hd.sh, h1]; rfl, by simp only [PyData.hasDictAll, hd.nd, h2]; rfl, ?_, ?_, ?_, ?_⟩
    · simp only [PyData.shownAll, piled_cons, List.length_cons]
      have := hd.ln
      have e : (ds.length + 1) * (n + 2) = ds.length * (n + 2) + (n + 2) := Nat.succ_mul ..
      omega
    · simp only [PyData.depthAll]
      have := hd.dp
      omega
    · simp only [PyData.shownAll, List.length_cons, h5]
    · simp only [PyData.shownAll]
      intro t ht
      rcases List.mem_cons.mp ht with z | z
      · rw [z]
        exact hd.st
      · exact h6 t z
theorem Fit.tup {k n l : Nat} {ds : List D} (h : ∀ d ∈ ds, Fit k n d) (hl : ds.length ≤ l) : Fit (k + 1) (l * (n + 2) + 3) (.tuple ds) := by
  obtain ⟨h1, h2, h3, h4, h5, h6⟩ := fit_all h
  refine ⟨by simp only [PyData.showable, h1], by simp only [PyData.shown]; exact okS_tuple _ h6, by simp only [PyData.hasDict, h2], ?_, by simp only [PyData.depth]; omega⟩
  simp only [PyData.shown]
  unfold tupleText
  rw [strLen_append, strLen_append]
  have e1 : ((("(" : String) : Str)).length = 1 := rfl
  have e3 : (((if (PyData.shownAll ds).length == 1 then ",)" else ")" : String) : Str)).length ≤ 2 := by split <;> decide
  have e4 : (Str.join ", " (PyData.shownAll ds)).length ≤ piled (PyData.shownAll ds) := by
    by_cases z : PyData.shownAll ds = []
    · rw [z]
      decide
    · have := join_length_add _ z
      omega
  have e5 : ds.length * (n + 2) ≤ l * (n + 2) := Nat.mul_le_mul_right _ hl
  rw [e1]
  omega
theorem listText_len : ∀ ts : List Str, (listText ts).length ≤ piled ts + 2
  | [] => by decide
  | t :: r => by
    have h := textFrom_length_pos r 1 (("[" : Str) ++ (if (0 : Nat) > 0 then ", " else "" : String) ++ t) (Nat.succ_pos 0)
    have e : ((("[" : Str) ++ (if (0 : Nat) > 0 then ", " else "" : String) ++ t)).length = 1 + t.length := by
      rw [strLen_append, strLen_append]; rfl
    have hX : (listText (t :: r)).length = (textFrom 0 "[" (t :: r)).length + 1 := by
      show (textFrom 0 "[" (t :: r) ++ "]").length = _
      rw [strLen_append]; rfl
    have hY : (textFrom 0 "[" (t :: r)).length = (textFrom 1 (("[" : Str) ++ (if (0 : Nat) > 0 then ", " else "" : String) ++ t) r).length := rfl
    rw [hX, hY, h, e, piled_cons]
    omega
theorem Fit.lst {k n l : Nat} {ds : List D} (h : ∀ d ∈ ds, Fit k n d) (hl : ds.length ≤ l) : Fit (k + 1) (l * (n + 2) + 3) (.list ds) := by
  obtain ⟨h1, h2, h3, h4, h5, h6⟩ := fit_all h
  refine ⟨by simp only [PyData.showable, h1], by simp only [PyData.shown]; exact okS_list _ h6, by simp only [PyData.hasDict, h2], ?_, by simp only [PyData.depth]; omega⟩
  simp only [PyData.shown]
  have e4 := listText_len (PyData.shownAll ds)
  have e5 : ds.length * (n + 2) ≤ l * (n + 2) := Nat.mul_le_mul_right _ hl
  omega
theorem Fit.repr {k n : Nat} {d : D} (h : Fit k n d) (hk : k ≤ 60) (hn : n ≤ 16777216) : biD .repr [d] = some (.imm (.str d.shown)) := by
  show (if d.showable = true ∧ d.hasDict = false ∧ d.shown.length ≤ sizeLine ∧ d.depth ≤ 60 then some (Sl.imm (.str d.shown)) else none) = _
  have := h.ln
  rw [if_pos ⟨h.sh, h.nd, by rw [sizeLine_eq]; omega, Nat.le_trans h.dp hk⟩]
theorem sh_str {x : Str} (h : PyData.strOk x = true) : SeqAt.shaped (.str x) = true := by
  unfold SeqAt.shaped
  simp [PyData.canLay0, PyData.depth, h]
theorem c_neS {x : Str} (h : PyData.strOk x = true) : cmpD .ne (.str x) (.str x) = some false := by
  show (if SeqAt.shaped (.str x) = true ∧ SeqAt.shaped (.str x) = true then some (!PyData.eqv (.str x) (.str x)) else none) = _
  rw [if_pos ⟨sh_str h, sh_str h⟩]
  simp [PyData.eqv]
theorem c_eqS {x : Str} (h : PyData.strOk x = true) : cmpD .eq (.str x) (.str x) = some true := by
  show (if SeqAt.shaped (.str x) = true ∧ SeqAt.shaped (.str x) = true then some (PyData.eqv (.str x) (.str x)) else none) = _
  rw [if_pos ⟨sh_str h, sh_str h⟩]
  simp [PyData.eqv]
theorem Fit.ne {k n : Nat} {d : D} (h : Fit k n d) : cmpD .ne (.str d.shown) (.str d.shown) = some false := c_neS h.st
theorem Fit.eq {k n : Nat} {d : D} (h : Fit k n d) : cmpD .eq (.str d.shown) (.str d.shown) = some true := c_eqS h.st
end Ev
end
section
namespace Ev
open PySem
abbrev Zs (ns : List Int) : List D := ns.map PyData.int
theorem popD_Zs : ∀ ns : List Int, popD isZ (Zs ns) = Zs (trimI ns)
  | [] => rfl
  | n :: ns => by
    show (match popD isZ (Zs ns) with | [] => if isZ (.int n) = true then [] else [PyData.int n] | r => PyData.int n :: r) = _
    rw [popD_Zs ns]
    show _ = Zs (match trimI ns with | [] => if n = 0 then [] else [n] | r => n :: r)
    cases trimI ns with
    | nil =>
      by_cases h : n = 0
      · simp [h, isZ]
      · simp [h, isZ]
    | cons a r => rfl
namespace K
theorem mem_rangeD {lo : Int} {n : Nat} {d : D} (h : d ∈ rangeD lo n) : ∃ k : Nat, k < n ∧ d = .int (lo + k) := by
  obtain ⟨k, hk, rfl⟩ := List.mem_map.mp h
  exact ⟨k, by simpa using hk, rfl⟩
end K
namespace K
def rI (g : Nat → D) (lo : Int) : D → Option D
  | .int k => some (g (k - lo).toNat)
  | _ => none
end K
namespace K
theorem fm_range {g : Nat → D} {lo : Int} {n : Nat} : (rangeD lo n).filterMap (rI g lo) = (List.range n).map g := by
  unfold rangeD
  rw [List.filterMap_map]
  rw [← List.filterMap_eq_map]
  congr 1
  funext k
  show some (g (lo + (k : Int) - lo).toNat) = some (g k)
  congr 2
  omega
end K
theorem Zs_set (L : List Int) (k : Nat) (a : Int) : (Zs L).set k (.int a) = Zs (L.set k a) := by simp [Zs]
theorem Zs_get {L : List Int} {k : Nat} (h : k < L.length) : (Zs L)[k]? = some (.int (L.getD k 0)) := by
  simp [Zs, h]
theorem at_Zs {L : List Int} {i : Int} {k : Nat} (e : i = (k : Int)) (h : k < L.length) : atD (Zs L) i = some (.int (L.getD k 0)) := by
  subst e
  exact at_nat (by omega) (by rw [Int.toNat_natCast]; exact Zs_get h)
abbrev Ks (ks : List Nat) : List D := ks.map fun (k : Nat) => .int (0 + (k : Int))
theorem range_Ks (n : Nat) : rangeD 0 n = Ks (List.range n) := rfl
def Bd (m : Int) (f : List Int) : Prop := ∀ a ∈ f, 0 ≤ a ∧ a < m
theorem Bd.at {m : Int} {f : List Int} (h : Bd m f) (hm : 0 < m) (i : Nat) : 0 ≤ f.getD i 0 ∧ f.getD i 0 < m := by
  by_cases hi : i < f.length
  · have : f.getD i 0 = f[i] := by simp [hi]
    rw [this]
    exact h _ (List.getElem_mem hi)
  · have : f.getD i 0 = 0 := by simp [List.getElem?_eq_none (Nat.le_of_not_lt hi)]
    rw [this]
    omega
namespace K
def eT (m : Int) (f g L : List Int) (z1 z2 : Option Sl) : Env := [some (.imm (.int m)), some (.imm (.tuple (Zs f))), some (.imm (.tuple (Zs g))), some (.own (.list (Zs L))), z1, z2]
end K
theorem slI_len (f : List Int) : (slI f).length = f.length - 1 := by simp [slI]
/-- rows -/
abbrev Ts (rows : List (List Int)) : List D := rows.map fun r => .tuple (Zs r)
abbrev Ls (rows : List (List Int)) : List D := rows.map fun r => .list (Zs r)
theorem popD_Ts : ∀ rows : List (List Int), popD isE (Ts rows) = Ts (trimE rows)
  | [] => rfl
  | r :: rows => by
    show (match popD isE (Ts rows) with | [] => if isE (.tuple (Zs r)) = true then [] else [PyData.tuple (Zs r)] | q => PyData.tuple (Zs r) :: q) = _
    rw [popD_Ts rows]
    show _ = Ts (match trimE rows with | [] => if r = [] then [] else [r] | q => r :: q)
    cases trimE rows with
    | nil =>
      cases r with
      | nil => simp [isE]
      | cons a r => simp [isE]
    | cons a q => rfl
theorem lay_Zs : ∀ ns : List Int, PyData.canLayAll0 (Zs ns) = true
  | [] => rfl
  | n :: ns => by
    show (PyData.canLay0 (.int n) && PyData.canLayAll0 (Zs ns)) = true
    rw [lay_Zs ns]
    rfl
theorem dep_Zs : ∀ ns : List Int, PyData.depthAll (Zs ns) ≤ 1
  | [] => by decide
  | n :: ns => by
    have := dep_Zs ns
    show max (PyData.depth (.int n)) (PyData.depthAll (Zs ns)) ≤ 1
    have h : PyData.depth (.int n) = 0 := rfl
    omega
theorem sh_Zs (ns : List Int) : SeqAt.shaped (.tuple (Zs ns)) = true := by
  have := dep_Zs ns
  unfold SeqAt.shaped
  rw [show PyData.canLay0 (.tuple (Zs ns)) = true from lay_Zs ns]
  simp [PyData.depth]
  omega
theorem c_eqE (r : List Int) : cmpD .eq (.tuple (Zs r)) (.tuple []) = some (isE (.tuple (Zs r))) := by
  show (if SeqAt.shaped (.tuple (Zs r)) = true ∧ SeqAt.shaped (.tuple []) = true then some (PyData.eqv (.tuple (Zs r)) (.tuple [])) else none) = _
  rw [if_pos ⟨sh_Zs r, by decide⟩]
  cases r <;> rfl
/-- a row times c, plus a row, reduced -/
theorem trimI_len : ∀ ns : List Int, (trimI ns).length ≤ ns.length
  | [] => by simp [trimI]
  | n :: ns => by
    have ih := trimI_len ns
    show (match trimI ns with | [] => if n = 0 then [] else [n] | r => n :: r).length ≤ ns.length + 1
    cases h : trimI ns with
    | nil => by_cases hn : n = 0 <;> simp [hn]
    | cons a r =>
      rw [h] at ih
      simp at ih ⊢
      omega
theorem redI_len (m : Int) (ns : List Int) : (redI m ns).length ≤ ns.length := by
  have := trimI_len (ns.map (·.fmod m))
  simpa [redI] using this
theorem trimI_mem : ∀ ns : List Int, ∀ a ∈ trimI ns, a ∈ ns
  | [], a, h => by simp [trimI] at h
  | n :: ns, a, h => by
    have h' : a ∈ (match trimI ns with | [] => if n = 0 then [] else [n] | r => n :: r) := h
    cases e : trimI ns with
    | nil =>
      rw [e] at h'
      by_cases hn : n = 0
      · simp [hn] at h'
      · simp [hn] at h'
        simp [h']
    | cons b r =>
      rw [e] at h'
      have h2 : a ∈ n :: b :: r := h'
      rcases List.mem_cons.mp h2 with z | z
      · simp [z]
      · exact List.mem_cons_of_mem _ (trimI_mem ns a (by rw [e]; exact z))
theorem redI_bd {m : Int} (hm : 0 < m) (ns : List Int) : Bd m (redI m ns) := fun a h => by
  obtain ⟨k, hk, rfl⟩ := List.mem_map.mp (trimI_mem _ a h)
  exact ⟨Int.fmod_nonneg_of_pos _ hm, Int.fmod_lt_of_pos _ hm⟩
theorem convS_len (m : Int) (f g L : List Int) (i j : Nat) : (convS m f g L i j).length = L.length := by simp [convS]
theorem conv_len (m : Int) (f g : List Int) : (conv m f g).length = f.length + g.length := by
  have h1 : ∀ (i : Nat) (js : List Nat) (L : List Int), (js.foldl (fun L j => convS m f g L i j) L).length = L.length := by
    intro i js
    induction js with
    | nil => exact fun _ => rfl
    | cons j js ih =>
      intro L
      rw [List.foldl_cons, ih, convS_len]
  have h2 : ∀ (is : List Nat) (L : List Int), (is.foldl (fun L i => (List.range g.length).foldl (fun L j => convS m f g L i j) L) L).length = L.length := by
    intro is
    induction is with
    | nil => exact fun _ => rfl
    | cons i is ih =>
      intro L
      rw [List.foldl_cons, ih, h1]
  unfold conv
  rw [h2, List.length_replicate]
theorem Ts_get {rows : List (List Int)} {k : Nat} (h : k < rows.length) : (Ts rows)[k]? = some (.tuple (Zs (rows.getD k []))) := by
  simp [h]
theorem at_Ts {rows : List (List Int)} {i : Int} {k : Nat} (e : i = (k : Int)) (h : k < rows.length) : atD (Ts rows) i = some (.tuple (Zs (rows.getD k []))) := by
  subst e
  exact at_nat (by omega) (by rw [Int.toNat_natCast]; exact Ts_get h)
theorem c_neE (r : List Int) : cmpD .ne (.tuple (Zs r)) (.tuple []) = some (!isE (.tuple (Zs r))) := by
  show (if SeqAt.shaped (.tuple (Zs r)) = true ∧ SeqAt.shaped (.tuple []) = true then some (!PyData.eqv (.tuple (Zs r)) (.tuple [])) else none) = _
  rw [if_pos ⟨sh_Zs r, by decide⟩]
  cases r <;> rfl
theorem intsOf_Zs : ∀ ns : List Int, intsOf (Zs ns) = some ns
  | [] => rfl
  | n :: ns => by
    show (intsOf (Zs ns)).map (n :: ·) = _
    rw [intsOf_Zs ns]
    rfl
theorem fold_max : ∀ (l : List Int) (a : Int), a ≤ l.foldl (fun a b => if a < b then b else a) a ∧ (∀ b ∈ l, b ≤ l.foldl (fun a b => if a < b then b else a) a) ∧ (l.foldl (fun a b => if a < b then b else a) a = a ∨ l.foldl (fun a b => if a < b then b else a) a ∈ l)
  | [], a => ⟨Int.le_refl _, (fun _ h => nomatch h), .inl rfl⟩
  | c :: l, a => by
    have ih := fold_max l (if a < c then c else a)
    simp only [List.foldl_cons]
    refine ⟨?_, ?_, ?_⟩
    · have := ih.1
      split at this <;> rename_i h <;> simp only [h, if_true, if_false] at this ⊢ <;> omega
    · intro b hb
      rcases List.mem_cons.mp hb with rfl | hb
      · have := ih.1
        split at this <;> rename_i h <;> simp only [h, if_true, if_false] at this ⊢ <;> omega
      · exact ih.2.1 b hb
    · rcases ih.2.2 with h | h
      · rw [h]
        split
        · exact .inr (List.mem_cons_self ..)
        · exact .inl rfl
      · exact .inr (List.mem_cons_of_mem _ h)
/-- how wide a table is -/
theorem widI_ge {rows : List (List Int)} {r : List Int} (h : r ∈ rows) : (r.length : Int) ≤ widI rows := by
  cases rows with
  | nil => cases h
  | cons a rows =>
    have f := fold_max (rows.map fun r => (r.length : Int)) (a.length : Int)
    rcases List.mem_cons.mp h with rfl | h
    · exact f.1
    · exact f.2.1 _ (List.mem_map_of_mem (f := fun r : List Int => (r.length : Int)) h)
theorem widI_mem (rows : List (List Int)) : widI rows = 0 ∨ ∃ r ∈ rows, widI rows = (r.length : Int) := by
  cases rows with
  | nil => exact .inl rfl
  | cons a rows =>
    have f := fold_max (rows.map fun r => (r.length : Int)) (a.length : Int)
    rcases f.2.2 with h | h
    · exact .inr ⟨a, List.mem_cons_self .., h⟩
    · obtain ⟨r, hr, e⟩ := List.mem_map.mp h
      exact .inr ⟨r, List.mem_cons_of_mem _ hr, e.symm⟩
theorem widI_nn (rows : List (List Int)) : 0 ≤ widI rows := by
  rcases widI_mem rows with h | ⟨r, _, h⟩ <;> omega
theorem sh_ZsL (ns : List Int) : SeqAt.shaped (.list (Zs ns)) = true := by
  have := dep_Zs ns
  unfold SeqAt.shaped
  rw [show PyData.canLay0 (.list (Zs ns)) = true from lay_Zs ns]
  simp [PyData.depth]
  omega
theorem c_neLE (r : List Int) : cmpD .ne (.list (Zs r)) (.list []) = some (!r.isEmpty) := by
  show (if SeqAt.shaped (.list (Zs r)) = true ∧ SeqAt.shaped (.list []) = true then some (!PyData.eqv (.list (Zs r)) (.list [])) else none) = _
  rw [if_pos ⟨sh_ZsL r, by decide⟩]
  cases r <;> rfl
abbrev tapeD (cs : List Int) (sp h : Int) : D := .list [.list (Zs cs), .int sp, .int h]
structure DrawQ (cs : List Int) (sp many : Int) (s : Sl) (fin : List Sl) : Prop where
  ex : ∃ v sp' h', s = .imm (.int v) ∧ fin = [.own (tapeD cs sp' h'), .imm .none] ∧ 0 ≤ v ∧ v < many ∧ sp ≤ sp' ∧ sp' ≤ sp + 1 ∧ 0 ≤ h'
theorem cut_all {ns : List Int} (h : ns.length ≤ 63) : cutD (Zs ns) none (some 63) = Zs ns := by
  unfold cutD HT.sIx
  simp
  exact List.take_of_length_le (by simp; omega)
theorem sh_Ts : ∀ rows : List (List Int), PyData.canLayAll0 (Ts rows) = true ∧ PyData.depthAll (Ts rows) ≤ 2
  | [] => ⟨rfl, by decide⟩
  | r :: rows => by
    obtain ⟨h1, h2⟩ := sh_Ts rows
    have h3 := dep_Zs r
    refine ⟨?_, ?_⟩
    · show (PyData.canLayAll0 (Zs r) && PyData.canLayAll0 (Ts rows)) = true
      rw [lay_Zs r, h1]
      rfl
    · show max (PyData.depthAll (Zs r) + 1) (PyData.depthAll (Ts rows)) ≤ 2
      omega
theorem c_neLT (rows : List (List Int)) : cmpD .ne (.list (Ts rows)) (.list []) = some (!rows.isEmpty) := by
  obtain ⟨h1, h2⟩ := sh_Ts rows
  have h : SeqAt.shaped (.list (Ts rows)) = true := by
    unfold SeqAt.shaped
    rw [show PyData.canLay0 (.list (Ts rows)) = true from h1]
    simp [PyData.depth]
    omega
  show (if SeqAt.shaped (.list (Ts rows)) = true ∧ SeqAt.shaped (.list []) = true then some (!PyData.eqv (.list (Ts rows)) (.list [])) else none) = _
  rw [if_pos ⟨h, by decide⟩]
  cases rows <;> rfl
theorem Ts_snoc (a : List (List Int)) (r : List Int) : Ts a ++ [.tuple (Zs r)] = Ts (a ++ [r]) := by simp
theorem all_Zs : ∀ {ds : List D} {l : List Int}, (∀ d ∈ ds, d ∈ Zs l) → ∃ k, ds = Zs k
  | [], _, _ => ⟨[], rfl⟩
  | d :: ds, l, h => by
    obtain ⟨a, _, rfl⟩ := List.mem_map.mp (h d (List.mem_cons_self ..))
    obtain ⟨k, rfl⟩ := all_Zs fun x hx => h x (List.mem_cons_of_mem _ hx)
    exact ⟨a :: k, rfl⟩
theorem c_neTT (rows : List (List Int)) : cmpD .ne (.tuple (Ts rows)) (.tuple []) = some (!rows.isEmpty) := by
  obtain ⟨h1, h2⟩ := sh_Ts rows
  have h : SeqAt.shaped (.tuple (Ts rows)) = true := by
    unfold SeqAt.shaped
    rw [show PyData.canLay0 (.tuple (Ts rows)) = true from h1]
    simp [PyData.depth]
    omega
  show (if SeqAt.shaped (.tuple (Ts rows)) = true ∧ SeqAt.shaped (.tuple []) = true then some (!PyData.eqv (.tuple (Ts rows)) (.tuple [])) else none) = _
  rw [if_pos ⟨h, by decide⟩]
  cases rows <;> rfl
structure NumQ (cs : List Int) (sp : Int) (s : Sl) (fin : List Sl) : Prop where
  ex : ∃ v sp' h', s = .imm (.int v) ∧ fin = [.own (tapeD cs sp' h'), .imm .none] ∧ 2 ≤ v ∧ v ≤ 36 ∧ sp ≤ sp' ∧ sp' ≤ sp + 2 ∧ 0 ≤ h'
namespace K
/-- a place in a written list -/
theorem at_menu {L : List Int} {v : Int} (h0 : 0 ≤ v) (h1 : v < (L.length : Int)) : atD (Zs L) v = some (.int (L.getD v.toNat 0)) := at_Zs (k := v.toNat) (by omega) (by omega)
end K
namespace K
theorem menu_all {L : List Int} {p : Int → Bool} (h : L.all p = true) {v : Int} (h0 : 0 ≤ v) (h1 : v < (L.length : Int)) : p (L.getD v.toNat 0) = true := by
  have hv : v.toNat < L.length := by omega
  have e : L.getD v.toNat 0 = L[v.toNat] := by simp [hv]
  rw [e]
  exact List.all_eq_true.mp h _ (List.getElem_mem hv)
end K
/-- some drawn numbers below m -/
structure RowsQ (cs : List Int) (m : Int) (sp0 sp1 : Int) (w : Nat) (l : Nat) : Prop where
  b : sp0 ≤ sp1 ∧ sp1 ≤ sp0 + 2 * (w * l)
namespace K
/-- a drawn number or nought, so many -/
theorem lc_draws {EX : Exn → Env → Prop} (n : Nat) {cs : List Int} {m : Int} (m0 : 0 < m) (m1 : m ≤ 1000000) (hc : cs.length < 1000) {f : D → M (Option D)} {l : List Nat} (E : Int × Int → Env) {sp h : Int} (h0 : 0 ≤ h) (s0 : 0 ≤ sp) (s1 : sp + 2 * l.length < 900000000) {Q : List D → Env → Prop}
    (hs : ∀ (t : Nat) (sp h : Int), 0 ≤ h → 0 ≤ sp → sp < 900000000 - 1 → WPX NE (f (.int (0 + (t : Int))) (E (sp, h))) (fun y e' => ∃ v sp' h', y = some (.int v) ∧ e' = E (sp', h') ∧ 0 ≤ v ∧ v < m ∧ sp ≤ sp' ∧ sp' ≤ sp + 2 ∧ 0 ≤ h'))
    (hq : ∀ ns sp' h', (∀ v ∈ ns, 0 ≤ v ∧ v < m) → ns.length = l.length → sp ≤ sp' → sp' ≤ sp + 2 * l.length → 0 ≤ h' → Q (Zs ns) (E (sp', h'))) : WPX EX (noEx (lcLoop f (Ks l)) (E (sp, h))) Q := by
  refine W_lc (fun (k : Nat) => .int (0 + (k : Int))) E (fun rest acc s => ∃ ns : List Int, acc = Zs ns ∧ (∀ v ∈ ns, 0 ≤ v ∧ v < m) ∧ ns.length + rest.length = l.length ∧ sp ≤ s.1 ∧ s.1 ≤ sp + 2 * ns.length ∧ 0 ≤ s.2) (sp, h) ⟨[], rfl, by simp, by simp, by simp, by simp, h0⟩ ?_ ?_
  · rintro t rest acc ⟨s, k⟩ ⟨ns, rfl, hb, hl, p0, p1, q⟩
    simp only [List.length_cons] at hl p0 p1 q
    refine W_mono (hs t s k q (by omega) (by omega)) ?_
    rintro y e' ⟨v, sp', h', rfl, rfl, v0, v1, r0, r1, r2⟩
    refine ⟨(sp', h'), rfl, ns ++ [v], by simp [Zs], ?_, ?_, ?_, ?_, r2⟩
    · intro w hw
      rcases List.mem_append.mp hw with z | z
      · exact hb w z
      · rw [List.mem_singleton.mp z]
        exact ⟨v0, v1⟩
    · simp
      omega
    · show sp ≤ sp'
      omega
    · show sp' ≤ sp + 2 * ((ns ++ [v]).length : Int)
      simp
      omega
  · rintro ys ⟨s, k⟩ ⟨ns, rfl, hb, hl, p0, p1, q⟩
    simp only [List.length_nil] at hl p0 p1 q
    exact hq ns s k hb (by omega) p0 (by omega) q
end K
structure AnyQ (cs : List Int) (m : Int) (most : Nat) (sp : Int) (s : Sl) (fin : List Sl) : Prop where
  ex : ∃ A sp' h', s = .imm (.tuple (Ts A)) ∧ fin = [.own (tapeD cs sp' h'), .imm .none, .imm .none] ∧ Red2 m A ∧ A.length ≤ most + 1 ∧ (∀ r ∈ A, r.length ≤ most + 1) ∧ sp ≤ sp' ∧ sp' ≤ sp + 200 ∧ 0 ≤ h'
abbrev cellD (c : Cell) : D := .tuple [.int (c.i : Int), .int (c.j : Int), .int c.a]
abbrev Cs (cs : List Cell) : List D := cs.map cellD
/-- the slots between the turns -/
structure Zr where
  z2 : Option Sl
  z3 : Option Sl
  z4 : Option Sl
  z5 : Option Sl
  z6 : Option Sl
  z7 : Option Sl
  z8 : Option Sl
  z9 : Option Sl
  z10 : Option Sl
  z11 : Option Sl
  z12 : Option Sl
  z13 : Option Sl
  z14 : Option Sl
  z15 : Option Sl
abbrev eL (ns : List Int) (s : Int × Int × Zr) : Env := [some (.imm (.list (Zs ns))), some (.own (tapeD ns s.1 s.2.1)), s.2.2.z2, s.2.2.z3, s.2.2.z4, s.2.2.z5, s.2.2.z6, s.2.2.z7, s.2.2.z8, s.2.2.z9, s.2.2.z10, s.2.2.z11, s.2.2.z12, s.2.2.z13, s.2.2.z14, s.2.2.z15]
theorem fitZ {m : Int} (hm : m ≤ 1000000) {L : List Int} (hb : Bd m L) {l : Nat} (hl : L.length ≤ l) : Fit 1 (l * 63 + 3) (.tuple (Zs L)) :=
  Fit.tup (fun d hd => by
    obtain ⟨a, ha, rfl⟩ := List.mem_map.mp hd
    have := hb a ha
    exact Fit.int (Nat.lt_of_lt_of_le (show a.natAbs < 1000001 by omega) (by decide))) (by simpa using hl)
theorem fitT {m : Int} (hm : m ≤ 1000000) {A : List (List Int)} {l w : Nat} (hb : ∀ r ∈ A, Bd m r ∧ r.length ≤ w) (hl : A.length ≤ l) : Fit 2 (l * (w * 63 + 3 + 2) + 3) (.tuple (Ts A)) :=
  Fit.tup (fun d hd => by
    obtain ⟨r, hr, rfl⟩ := List.mem_map.mp hd
    exact fitZ hm (hb r hr).1 (hb r hr).2) (by simpa using hl)
theorem Red2.bdr {m : Int} (hm : 0 < m) {A : List (List Int)} (h : Red2 m A) {r : List Int} (hr : r ∈ A) : Bd m r := by
  have := h.row hr
  rw [← this]
  exact redI_bd hm r
theorem trim2_fit {m : Int} (hm : 0 < m) (hm2 : m ≤ 1000000) {A : List (List Int)} {l w : Nat} (hl : A.length ≤ l) (hw : ∀ r ∈ A, r.length ≤ w) : Fit 2 (l * (w * 63 + 3 + 2) + 3) (.tuple (Ts (trim2 m A))) := by
  refine fitT hm2 (fun r hr => ⟨(trim2_red hm A).bdr hm hr, ?_⟩) ?_
  · obtain ⟨r', h', rfl⟩ := List.mem_map.mp (trimE_mem _ _ hr)
    have h1 := redI_len m r'
    have h2 := hw r' h'
    omega
  · have := trimE_len (A.map (redI m))
    simp at this
    exact Nat.le_trans this hl
theorem from9_fit {m : Int} (hm : 0 < m) (hm2 : m ≤ 1000000) {cs : List Cell} (h : ∀ c ∈ cs, c.i < 9 ∧ c.j < 9) : Fit 2 6000 (.tuple (Ts (trim2 m (from9 cs)))) := by
  have hw := from9_wide h
  exact (trim2_fit hm hm2 (Nat.le_of_eq hw.1) fun r hr => Nat.le_of_eq (hw.2 r hr)).mono (by omega) (by omega)
theorem lineI_len {m x : Int} {side : Nat} {cs : List Cell} (h : ∀ c ∈ cs, c.i < 9 ∧ c.j < 9) : (lineI m x side cs).length = 9 := (line_co cs _ rfl h).1
theorem fm_if {T : Type} (p : T → Prop) [DecidablePred p] (g : T → D) : ∀ l : List T, l.filterMap (fun c => if p c then some (g c) else none) = (l.filter fun c => decide (p c)).map g
  | [] => rfl
  | c :: l => by
    rw [List.filterMap_cons, List.filter_cons]
    by_cases h : p c
    · simp only [h, if_true, decide_true, List.map_cons]
      rw [fm_if p g l]
    · simp only [h, if_false, decide_false, Bool.false_eq_true]
      exact fm_if p g l
theorem flat_len {α : Type} {f : Nat → List α} {w : Nat} (h : ∀ i, (f i).length ≤ w) : ∀ n : Nat, ((List.range n).flatMap f).length ≤ w * n
  | 0 => by simp
  | n + 1 => by
    rw [List.range_succ, List.flatMap_append, List.length_append]
    have h1 := flat_len h n
    have h2 := h n
    simp only [List.flatMap_cons, List.flatMap_nil, List.append_nil]
    rw [Nat.mul_succ]
    omega
theorem cells_len {A : List (List Int)} (h : Few A) : (cells A).length ≤ 64 := by
  have h1 : (cells A).length ≤ 8 * A.length := flat_len (fun i => by have := h.ro i; simp only [rowCells, List.length_map, List.length_range]; exact this) _
  have := h.1
  omega
end Ev
end
section
namespace Al
open Lean.Grind
section
variable {R : Type} [CommRing R]
def gs : Nat → (Nat → R) → R
  | 0, _ => 0
  | n + 1, f => gs n f + f n
theorem gs_congr {f g : Nat → R} : ∀ {n : Nat}, (∀ i, i < n → f i = g i) → gs n f = gs n g
  | 0, _ => rfl
  | n + 1, h => by
    show gs n f + f n = gs n g + g n
    rw [gs_congr (n := n) fun i hi => h i (by omega), h n (by omega)]
theorem gs_add (f g : Nat → R) : ∀ n : Nat, gs n (fun i => f i + g i) = gs n f + gs n g
  | 0 => by show (0 : R) = 0 + 0; grind
  | n + 1 => by
    show gs n (fun i => f i + g i) + (f n + g n) = (gs n f + f n) + (gs n g + g n)
    rw [gs_add f g n]
    grind
theorem gs_mul (c : R) (f : Nat → R) : ∀ n : Nat, gs n (fun i => c * f i) = c * gs n f
  | 0 => by show (0 : R) = c * 0; grind
  | n + 1 => by
    show gs n (fun i => c * f i) + c * f n = c * (gs n f + f n)
    rw [gs_mul c f n]
    grind
theorem gs_mulr (c : R) (f : Nat → R) (n : Nat) : gs n (fun i => f i * c) = gs n f * c := by
  have h : gs n (fun i => f i * c) = gs n (fun i => c * f i) := gs_congr fun i _ => by grind
  rw [h, gs_mul]
  grind
theorem gs_zero {f : Nat → R} {n : Nat} (h : ∀ i, i < n → f i = 0) : gs n f = 0 := by
  induction n with
  | zero => rfl
  | succ n ih =>
    show gs n f + f n = 0
    rw [ih fun i hi => h i (by omega), h n (by omega)]
    grind
theorem gs_one {f : Nat → R} {n k : Nat} (hk : k < n) (h : ∀ i, i < n → i ≠ k → f i = 0) : gs n f = f k := by
  induction n with
  | zero => omega
  | succ n ih =>
    show gs n f + f n = f k
    by_cases e : n = k
    · subst e
      rw [gs_zero fun i hi => h i (by omega) (by omega)]
      grind
    · rw [ih (by omega) fun i hi => h i (by omega), h n (by omega) e]
      grind
theorem gs_comm (f : Nat → Nat → R) (m : Nat) : ∀ n : Nat, gs n (fun i => gs m (f i)) = gs m (fun j => gs n fun i => f i j)
  | 0 => (gs_zero fun _ _ => rfl).symm
  | n + 1 => by
    show gs n (fun i => gs m (f i)) + gs m (f n) = gs m (fun j => gs n (fun i => f i j) + f n j)
    rw [gs_comm f m n, gs_add]
theorem gs_more {f : Nat → R} {n k : Nat} (hk : n ≤ k) (h : ∀ i, n ≤ i → f i = 0) : gs k f = gs n f := by
  induction k with
  | zero => rw [Nat.le_zero.mp hk]
  | succ k ih =>
    by_cases e : n = k + 1
    · rw [e]
    · show gs k f + f k = _
      rw [ih (by omega), h k (by omega)]
      grind
theorem gs_succ (f : Nat → R) : ∀ n : Nat, gs (n + 1) f = f 0 + gs n fun i => f (i + 1)
  | 0 => by show 0 + f 0 = f 0 + 0; grind
  | n + 1 => by
    show gs (n + 1) f + f (n + 1) = f 0 + (gs n (fun i => f (i + 1)) + f (n + 1))
    rw [gs_succ f n]
    grind
def cvR (f g : Nat → R) (k : Nat) : R := gs (k + 1) fun i => f i * g (k - i)
/-- .. as a sum over a square -/
theorem cvR_sq (f g : Nat → R) {k n l : Nat} (hn : k < n) (hl : k < l) : cvR f g k = gs n fun i => gs l fun j => if k = i + j then f i * g j else 0 := by
  unfold cvR
  rw [← gs_more (n := k + 1) (k := n) (f := fun i => if i < k + 1 then f i * g (k - i) else 0) (by omega) (fun i hi => if_neg (by omega)) |>.trans (gs_congr fun i hi => if_pos hi)]
  refine gs_congr fun i _ => ?_
  by_cases h : i < k + 1
  · rw [if_pos h, gs_one (k := k - i) (by omega) fun j _ hj => if_neg (by omega), if_pos (by omega)]
  · rw [if_neg h]
    exact (gs_zero fun j _ => if_neg (by omega)).symm
theorem cvR_comm (f g : Nat → R) (k : Nat) : cvR f g k = cvR g f k := by
  rw [cvR_sq f g (Nat.lt_succ_self k) (Nat.lt_succ_self k), cvR_sq g f (Nat.lt_succ_self k) (Nat.lt_succ_self k), gs_comm]
  refine gs_congr fun j _ => gs_congr fun i _ => ?_
  by_cases h : k = i + j
  · rw [if_pos h, if_pos (by omega), CommSemiring.mul_comm]
  · rw [if_neg h, if_neg (by omega)]
/-- .. of three, as a sum over a cube -/
theorem cvR_three (f g h : Nat → R) (k : Nat) : cvR (cvR f g) h k = gs (k + 1) fun a => gs (k + 1) fun b => gs (k + 1) fun c => if k = a + b + c then f a * g b * h c else 0 := by
  rw [cvR_sq (cvR f g) h (Nat.lt_succ_self k) (Nat.lt_succ_self k)]
  have e : ∀ i, i < k + 1 → (gs (k + 1) fun j => if k = i + j then cvR f g i * h j else 0) = gs (k + 1) fun a => gs (k + 1) fun b => gs (k + 1) fun c => if k = i + c then (if i = a + b then f a * g b * h c else 0) else 0 := fun i hi => by
    have e2 : ∀ j, j < k + 1 → (if k = i + j then cvR f g i * h j else 0) = gs (k + 1) fun a => gs (k + 1) fun b => if k = i + j then (if i = a + b then f a * g b * h j else 0) else 0 := fun j hj => by
      by_cases hk : k = i + j
      · rw [if_pos hk, cvR_sq f g (n := k + 1) (l := k + 1) (by omega) (by omega), ← gs_mulr]
        refine gs_congr fun a _ => ?_
        rw [← gs_mulr]
        refine gs_congr fun b _ => ?_
        rw [if_pos hk]
        by_cases hi : i = a + b
        · rw [if_pos hi, if_pos hi]
        · rw [if_neg hi, if_neg hi, Semiring.zero_mul]
      · rw [if_neg hk]
        exact (gs_zero fun a _ => gs_zero fun b _ => if_neg hk).symm
    rw [gs_congr e2, gs_comm]
    refine gs_congr fun a _ => ?_
    rw [gs_comm]
  rw [gs_congr e, gs_comm]
  refine gs_congr fun a _ => ?_
  rw [gs_comm]
  refine gs_congr fun b _ => ?_
  rw [gs_comm]
  refine gs_congr fun c _ => ?_
  by_cases hk : k = a + b + c
  · rw [if_pos hk, gs_one (k := a + b) (by omega) fun i _ hi => ?_, if_pos hk, if_pos rfl]
    by_cases h1 : k = i + c
    · rw [if_pos h1, if_neg hi]
    · rw [if_neg h1]
  · rw [if_neg hk]
    refine gs_zero fun i _ => ?_
    by_cases h1 : k = i + c
    · rw [if_pos h1, if_neg (by omega)]
    · rw [if_neg h1]
theorem cvR_assoc (f g h : Nat → R) (k : Nat) : cvR (cvR f g) h k = cvR f (cvR g h) k := by
  rw [cvR_comm f (cvR g h) k, cvR_three, cvR_three]
  -- the cube of g h f
  rw [gs_comm]
  refine gs_congr fun b _ => ?_
  rw [gs_comm]
  refine gs_congr fun c _ => gs_congr fun a _ => ?_
  by_cases hk : k = a + b + c
  · rw [if_pos hk, if_pos (by omega)]
    grind
  · rw [if_neg hk, if_neg (by omega)]
end
structure Poly (R : Type) [CommRing R] where
  c : Nat → R
  fin : ∃ n, ∀ i, n ≤ i → c i = 0
namespace Poly
section
variable {R : Type} [CommRing R]
def nc (n : Nat) : R := (Semiring.natCast (α := R)).natCast n
def ic (n : Int) : R := (Ring.intCast (α := R)).intCast n
theorem ext {p q : Poly R} (h : ∀ i, p.c i = q.c i) : p = q := by
  cases p
  cases q
  have : ‹Nat → R› = ‹Nat → R› := rfl
  congr
  exact funext h
def const (a : R) : Poly R := ⟨fun i => if i = 0 then a else 0, 1, fun i hi => if_neg (by omega)⟩
def add (p q : Poly R) : Poly R := ⟨fun i => p.c i + q.c i, by
  obtain ⟨n, hn⟩ := p.fin
  obtain ⟨m, hm⟩ := q.fin
  exact ⟨max n m, fun i hi => by rw [hn i (by omega), hm i (by omega)]; grind⟩⟩
def neg (p : Poly R) : Poly R := ⟨fun i => - p.c i, by
  obtain ⟨n, hn⟩ := p.fin
  exact ⟨n, fun i hi => by rw [hn i hi]; grind⟩⟩
def sub (p q : Poly R) : Poly R := ⟨fun i => p.c i - q.c i, by
  obtain ⟨n, hn⟩ := p.fin
  obtain ⟨m, hm⟩ := q.fin
  exact ⟨max n m, fun i hi => by rw [hn i (by omega), hm i (by omega)]; grind⟩⟩
theorem cv_fin {f g : Nat → R} {n m : Nat} (hn : ∀ i, n ≤ i → f i = 0) (hm : ∀ i, m ≤ i → g i = 0) {k : Nat} (hk : n + m ≤ k) : cvR f g k = 0 := by
  refine gs_zero fun i hi => ?_
  by_cases h : n ≤ i
  · rw [hn i h]; grind
  · rw [hm (k - i) (by omega)]; grind
def mul (p q : Poly R) : Poly R := ⟨cvR p.c q.c, by
  obtain ⟨n, hn⟩ := p.fin
  obtain ⟨m, hm⟩ := q.fin
  exact ⟨n + m, fun i hi => cv_fin hn hm hi⟩⟩
instance : Add (Poly R) := ⟨add⟩
instance : Mul (Poly R) := ⟨mul⟩
instance : Neg (Poly R) := ⟨neg⟩
instance : Sub (Poly R) := ⟨sub⟩
instance : NatCast (Poly R) := ⟨fun n => const (nc n)⟩
instance : IntCast (Poly R) := ⟨fun n => const (ic n)⟩
instance (n : Nat) : OfNat (Poly R) n := ⟨const (OfNat.ofNat n : R)⟩
instance : SMul Nat (Poly R) := ⟨fun n p => (n : Poly R) * p⟩
instance : SMul Int (Poly R) := ⟨fun n p => (n : Poly R) * p⟩
def npow (p : Poly R) : Nat → Poly R
  | 0 => 1
  | n + 1 => npow p n * p
instance : HPow (Poly R) Nat (Poly R) := ⟨npow⟩
theorem add_c (p q : Poly R) (i : Nat) : (p + q).c i = p.c i + q.c i := rfl
theorem sub_c (p q : Poly R) (i : Nat) : (p - q).c i = p.c i - q.c i := rfl
theorem neg_c (p : Poly R) (i : Nat) : (-p).c i = - p.c i := rfl
theorem mul_c (p q : Poly R) (i : Nat) : (p * q).c i = cvR p.c q.c i := rfl
theorem const_c (a : R) (i : Nat) : (const a).c i = if i = 0 then a else 0 := rfl
theorem zero_c (i : Nat) : (0 : Poly R).c i = 0 := by
  show (if i = 0 then (0 : R) else 0) = 0
  exact ite_self _
theorem one_c (i : Nat) : (1 : Poly R).c i = if i = 0 then 1 else 0 := rfl
theorem const_mul_c (a : R) (p : Poly R) (i : Nat) : (const a * p).c i = a * p.c i := by
  show gs (i + 1) (fun j => (if j = 0 then a else 0) * p.c (i - j)) = _
  rw [gs_one (k := 0) (by omega) fun j _ hj => by rw [if_neg hj]; grind]
  rfl
theorem const_add (a b : R) : (const (a + b) : Poly R) = const a + const b := ext fun i => by
  show (if i = 0 then a + b else 0) = (if i = 0 then a else 0) + (if i = 0 then b else 0)
  by_cases h : i = 0
  · simp only [h, if_true]
  · simp only [h, if_false]; grind
theorem const_neg (a : R) : (const (-a) : Poly R) = - const a := ext fun i => by
  show (if i = 0 then -a else 0) = - (if i = 0 then a else 0)
  by_cases h : i = 0
  · simp only [h, if_true]
  · simp only [h, if_false]; grind
theorem const_mul (a b : R) : (const (a * b) : Poly R) = const a * const b := ext fun i => by
  rw [const_mul_c]
  show (if i = 0 then a * b else 0) = a * (if i = 0 then b else 0)
  by_cases h : i = 0
  · simp only [h, if_true]
  · simp only [h, if_false]; grind
theorem mul_comm' (p q : Poly R) : p * q = q * p := ext fun i => cvR_comm _ _ i
theorem left_distrib' (p q r : Poly R) : p * (q + r) = p * q + p * r := ext fun i => by
  show gs (i + 1) (fun j => p.c j * (q.c (i - j) + r.c (i - j))) = gs (i + 1) (fun j => p.c j * q.c (i - j)) + gs (i + 1) (fun j => p.c j * r.c (i - j))
  rw [← gs_add]
  exact gs_congr fun j _ => by grind
theorem mul_one' (p : Poly R) : p * 1 = p := by
  rw [mul_comm']
  refine ext fun i => ?_
  show (const (1 : R) * p).c i = _
  rw [const_mul_c]
  grind
theorem zero_mul' (p : Poly R) : 0 * p = 0 := ext fun i => by
  show (const (0 : R) * p).c i = _
  rw [const_mul_c, zero_c]
  grind
instance : CommRing (Poly R) where
  add_zero p := ext fun i => by rw [add_c, zero_c]; grind
  add_comm p q := ext fun i => by rw [add_c, add_c]; grind
  add_assoc p q r := ext fun i => by simp only [add_c]; grind
  mul_assoc p q r := ext fun i => cvR_assoc _ _ _ i
  mul_one := mul_one'
  one_mul p := by rw [mul_comm', mul_one']
  left_distrib := left_distrib'
  right_distrib p q r := by rw [mul_comm', left_distrib', mul_comm' r p, mul_comm' r q]
  zero_mul := zero_mul'
  mul_zero p := by rw [mul_comm', zero_mul']
  pow_zero p := rfl
  pow_succ p n := rfl
  ofNat_succ n := by
    show (const (OfNat.ofNat (n + 1) : R) : Poly R) = const (OfNat.ofNat n : R) + const (1 : R)
    rw [← const_add, Semiring.ofNat_succ]
  ofNat_eq_natCast n := by
    show (const (OfNat.ofNat n : R) : Poly R) = const (nc n)
    rw [Semiring.ofNat_eq_natCast]
    rfl
  nsmul_eq_natCast_mul n p := rfl
  neg_add_cancel p := ext fun i => by rw [add_c, neg_c, zero_c]; grind
  sub_eq_add_neg p q := ext fun i => by rw [add_c, neg_c, sub_c]; grind
  neg_zsmul i p := by
    refine ext fun k => ?_
    show (const (ic (-i)) * p).c k = - (const (ic i) * p).c k
    rw [const_mul_c, const_mul_c, show (ic (-i) : R) = - ic i from Ring.intCast_neg i]
    grind
  zsmul_natCast_eq_nsmul n p := by
    refine ext fun k => ?_
    show (const (ic ((n : Nat) : Int)) * p).c k = (const (nc n) * p).c k
    rw [show (ic ((n : Nat) : Int) : R) = nc n from Ring.intCast_natCast n]
  intCast_ofNat n := by
    show (const (ic (OfNat.ofNat n : Int)) : Poly R) = const (OfNat.ofNat n : R)
    rw [show (ic (OfNat.ofNat n : Int) : R) = OfNat.ofNat n from Ring.intCast_ofNat n]
  intCast_neg i := by
    show (const (ic (-i)) : Poly R) = - const (ic i)
    rw [show (ic (-i) : R) = - ic i from Ring.intCast_neg i, const_neg]
  mul_comm := mul_comm'
noncomputable def bd (p : Poly R) : Nat := Classical.choose p.fin
theorem bd_spec (p : Poly R) : ∀ i, p.bd ≤ i → p.c i = 0 := Classical.choose_spec p.fin
noncomputable def ev (x : R) (p : Poly R) : R := gs p.bd fun i => p.c i * x ^ i
theorem ev_eq {x : R} {p : Poly R} {n : Nat} (h : ∀ i, n ≤ i → p.c i = 0) : ev x p = gs n fun i => p.c i * x ^ i := by
  unfold ev
  have e1 : gs (max n p.bd) (fun i => p.c i * x ^ i) = gs p.bd (fun i => p.c i * x ^ i) := gs_more (by omega) fun i hi => by rw [p.bd_spec i hi]; grind
  have e2 : gs (max n p.bd) (fun i => p.c i * x ^ i) = gs n (fun i => p.c i * x ^ i) := gs_more (by omega) fun i hi => by rw [h i hi]; grind
  rw [← e1, e2]
theorem ev_add (x : R) (p q : Poly R) : ev x (p + q) = ev x p + ev x q := by
  have hp : ∀ i, max p.bd q.bd ≤ i → p.c i = 0 := fun i hi => p.bd_spec i (by omega)
  have hq : ∀ i, max p.bd q.bd ≤ i → q.c i = 0 := fun i hi => q.bd_spec i (by omega)
  rw [ev_eq hp, ev_eq hq, ev_eq (n := max p.bd q.bd) (fun i hi => by rw [add_c, hp i hi, hq i hi]; grind), ← gs_add]
  exact gs_congr fun i _ => by rw [add_c]; grind
theorem ev_const (x a : R) : ev x (const a) = a := by
  rw [ev_eq (n := 1) fun i hi => if_neg (by omega)]
  show (0 : R) + (if 0 = 0 then a else 0) * x ^ 0 = a
  rw [if_pos rfl, Semiring.pow_zero]
  grind
theorem pow_add' (x : R) (a b : Nat) : x ^ (a + b) = x ^ a * x ^ b := by
  induction b with
  | zero => rw [Nat.add_zero, Semiring.pow_zero]; grind
  | succ b ih =>
    rw [← Nat.add_assoc, Semiring.pow_succ, ih, Semiring.pow_succ]
    grind
theorem ev_mul (x : R) (p q : Poly R) : ev x (p * q) = ev x p * ev x q := by
  rw [ev_eq (n := p.bd + q.bd) (p := p * q) fun i hi => cv_fin p.bd_spec q.bd_spec hi]
  have e : ∀ k, k < p.bd + q.bd → (p * q).c k * x ^ k = gs p.bd fun i => gs q.bd fun j => if k = i + j then (p.c i * x ^ i) * (q.c j * x ^ j) else 0 := fun k hk => by
    rw [mul_c, cvR_sq p.c q.c (n := p.bd + q.bd) (l := p.bd + q.bd) hk hk, ← gs_mulr]
    rw [gs_more (n := p.bd) (by omega) fun i hi => ?_]
    · refine gs_congr fun i _ => ?_
      rw [← gs_mulr, gs_more (n := q.bd) (by omega) fun j hj => ?_]
      · refine gs_congr fun j _ => ?_
        by_cases h : k = i + j
        · rw [if_pos h, if_pos h, h, pow_add']
          grind
        · rw [if_neg h, if_neg h]
          grind
      · rw [q.bd_spec j hj]
        by_cases h : k = i + j
        · rw [if_pos h]; grind
        · rw [if_neg h]; grind
    · rw [gs_zero (f := fun j => if k = i + j then p.c i * q.c j else 0) fun j _ => by rw [p.bd_spec i hi]; by_cases h : k = i + j; rw [if_pos h]; grind; rw [if_neg h]]
      grind
  rw [gs_congr e, gs_comm]
  unfold ev
  rw [← gs_mulr]
  refine gs_congr fun i hi => ?_
  rw [gs_comm, ← gs_mul]
  refine gs_congr fun j hj => ?_
  rw [gs_one (k := i + j) (by omega) fun k _ hk => if_neg hk, if_pos rfl]
theorem ev_one (x : R) : ev x (1 : Poly R) = 1 := ev_const x 1
theorem ev_zero (x : R) : ev x (0 : Poly R) = 0 := ev_const x 0
theorem ev_neg (x : R) (p : Poly R) : ev x (-p) = - ev x p := by
  have h := ev_add x p (-p)
  rw [show p + -p = 0 by grind, ev_zero] at h
  grind
theorem ev_sub (x : R) (p q : Poly R) : ev x (p - q) = ev x p - ev x q := by
  rw [show p - q = p + -q by grind, ev_add, ev_neg]
  grind
end
end Poly
structure Hom (R S : Type) [CommRing R] [CommRing S] where
  f : R → S
  add : ∀ a b, f (a + b) = f a + f b
  mul : ∀ a b, f (a * b) = f a * f b
  one : f 1 = 1
namespace Hom
variable {R S : Type} [CommRing R] [CommRing S]
theorem zero (h : Hom R S) : h.f 0 = 0 := by
  have := h.add 0 0
  rw [show (0 : R) + 0 = 0 by grind] at this
  grind
theorem sum (h : Hom R S) (f : Nat → R) : ∀ n, h.f (gs n f) = gs n fun i => h.f (f i)
  | 0 => h.zero
  | n + 1 => by
    show h.f (gs n f + f n) = _
    rw [h.add, sum h f n]
    rfl
theorem cv (h : Hom R S) (f g : Nat → R) (k : Nat) : h.f (cvR f g k) = cvR (fun i => h.f (f i)) (fun i => h.f (g i)) k := by
  unfold cvR
  rw [h.sum]
  exact gs_congr fun i _ => h.mul _ _
/-- coefficient by coefficient -/
def map (h : Hom R S) : Hom (Poly R) (Poly S) where
  f p := ⟨fun i => h.f (p.c i), by
    obtain ⟨n, hn⟩ := p.fin
    exact ⟨n, fun i hi => by rw [hn i hi, h.zero]⟩⟩
  add p q := Poly.ext fun i => h.add _ _
  mul p q := Poly.ext fun i => h.cv _ _ i
  one := Poly.ext fun i => by
    show h.f (if i = 0 then 1 else 0) = if i = 0 then 1 else 0
    by_cases e : i = 0
    · rw [if_pos e, if_pos e, h.one]
    · rw [if_neg e, if_neg e, h.zero]
noncomputable def atx (x : R) : Hom (Poly R) R := ⟨Poly.ev x, Poly.ev_add x, Poly.ev_mul x, Poly.ev_one x⟩
def comp {T : Type} [CommRing T] (h : Hom R S) (k : Hom S T) : Hom R T := ⟨fun a => k.f (h.f a), fun a b => by rw [h.add, k.add], fun a b => by rw [h.mul, k.mul], by rw [h.one, k.one]⟩
end Hom
end Al
end
section
namespace Al
open Lean.Grind Ev
def sZ (m : Int) : Setoid Int := ⟨Cg m, fun a => Cg.refl m a, fun h => h.symm, fun h k => h.trans k⟩
def Zm (m : Int) : Type := Quotient (sZ m)
def mk (m a : Int) : Zm m := Quotient.mk (sZ m) a
theorem mk_eq {m a b : Int} : mk m a = mk m b ↔ Cg m a b := ⟨fun h => Quotient.exact h, fun h => Quotient.sound h⟩
namespace Zm
variable {m : Int}
instance : Add (Zm m) := ⟨Quotient.lift₂ (fun a b => mk m (a + b)) fun a b c d h k => mk_eq.mpr (Cg.add h k)⟩
instance : Mul (Zm m) := ⟨Quotient.lift₂ (fun a b => mk m (a * b)) fun a b c d h k => mk_eq.mpr (Cg.mul h k)⟩
instance : Sub (Zm m) := ⟨Quotient.lift₂ (fun a b => mk m (a - b)) fun a b c d h k => mk_eq.mpr (Cg.sub h k)⟩
instance : Neg (Zm m) := ⟨Quotient.lift (fun a => mk m (-a)) fun a b h => mk_eq.mpr (by
  have h2 : Cg m (0 - a) (0 - b) := (Cg.refl m 0).sub h
  rwa [Int.zero_sub, Int.zero_sub] at h2)⟩
instance : NatCast (Zm m) := ⟨fun n => mk m n⟩
instance : IntCast (Zm m) := ⟨fun n => mk m n⟩
instance (n : Nat) : OfNat (Zm m) n := ⟨mk m n⟩
instance : SMul Nat (Zm m) := ⟨fun n a => mk m n * a⟩
instance : SMul Int (Zm m) := ⟨fun n a => mk m n * a⟩
def npow (a : Zm m) : Nat → Zm m
  | 0 => 1
  | n + 1 => npow a n * a
instance : HPow (Zm m) Nat (Zm m) := ⟨npow⟩
theorem ind {p : Zm m → Prop} (h : ∀ a, p (mk m a)) (x : Zm m) : p x := Quotient.ind h x
instance : CommRing (Zm m) where
  add_zero := ind fun a => congrArg (mk m) (Int.add_zero a)
  add_comm := ind fun a => ind fun b => congrArg (mk m) (Int.add_comm a b)
  add_assoc := ind fun a => ind fun b => ind fun c => congrArg (mk m) (Int.add_assoc a b c)
  mul_assoc := ind fun a => ind fun b => ind fun c => congrArg (mk m) (Int.mul_assoc a b c)
  mul_one := ind fun a => congrArg (mk m) (Int.mul_one a)
  one_mul := ind fun a => congrArg (mk m) (Int.one_mul a)
  left_distrib := ind fun a => ind fun b => ind fun c => congrArg (mk m) (Int.mul_add a b c)
  right_distrib := ind fun a => ind fun b => ind fun c => congrArg (mk m) (Int.add_mul a b c)
  zero_mul := ind fun a => congrArg (mk m) (Int.zero_mul a)
  mul_zero := ind fun a => congrArg (mk m) (Int.mul_zero a)
  pow_zero _ := rfl
  pow_succ _ _ := rfl
  ofNat_succ n := rfl
  ofNat_eq_natCast n := rfl
  nsmul_eq_natCast_mul n a := rfl
  neg_add_cancel := ind fun a => congrArg (mk m) (Int.add_left_neg a)
  sub_eq_add_neg := ind fun a => ind fun b => congrArg (mk m) Int.sub_eq_add_neg
  neg_zsmul i := ind fun a => congrArg (mk m) (Int.neg_mul i a)
  zsmul_natCast_eq_nsmul n a := rfl
  intCast_ofNat n := rfl
  intCast_neg i := rfl
  mul_comm := ind fun a => ind fun b => congrArg (mk m) (Int.mul_comm a b)
theorem mk_add (a b : Int) : mk m (a + b) = mk m a + mk m b := rfl
theorem mk_mul (a b : Int) : mk m (a * b) = mk m a * mk m b := rfl
theorem mk_sub (a b : Int) : mk m (a - b) = mk m a - mk m b := rfl
theorem mk_neg (a : Int) : mk m (-a) = - mk m a := rfl
theorem mk_zero : mk m 0 = 0 := rfl
theorem mk_one : mk m 1 = 1 := rfl
theorem mk_fmod (a : Int) : mk m (a.fmod m) = mk m a := mk_eq.mpr (Cg.fmod m a)
theorem mk_pow (a : Int) : ∀ n : Nat, mk m (a ^ n) = mk m a ^ n
  | 0 => by rw [Int.pow_zero, Semiring.pow_zero]; rfl
  | n + 1 => by rw [Int.pow_succ, Semiring.pow_succ, mk_mul, mk_pow a n]
theorem mk_sum (f : Nat → Int) : ∀ n, mk m (sumN n f) = gs n fun i => mk m (f i)
  | 0 => rfl
  | n + 1 => by
    show mk m (sumN n f) + mk m (f n) = _
    rw [mk_sum f n]
    rfl
theorem mk_cv (f g : Nat → Int) (k : Nat) : mk m (cv f g k) = cvR (fun i => mk m (f i)) (fun i => mk m (g i)) k := mk_sum _ _
end Zm
open Zm
section
variable {m : Int}
def ofL (m : Int) (L : List Int) : Poly (Zm m) := ⟨fun i => mk m (co L i), L.length, fun i hi => by rw [co_ge hi]; rfl⟩
theorem ofL_c (L : List Int) (i : Nat) : (ofL m L).c i = mk m (co L i) := rfl
theorem ofL_eq {A B : List Int} : ofL m A = ofL m B ↔ ∀ j, Cg m (co A j) (co B j) := by
  constructor
  · exact fun h j => mk_eq.mp (congrFun (congrArg Poly.c h) j)
  · exact fun h => Poly.ext fun j => mk_eq.mpr (h j)
theorem ofL_redI (L : List Int) : ofL m (redI m L) = ofL m L := ofL_eq.mpr (redI_cg m L)
theorem ofL_nil : ofL m [] = 0 := Poly.ext fun i => by rw [Poly.zero_c, ofL_c, co_nil]; rfl
theorem ofL_one (a : Int) : ofL m [a] = Poly.const (mk m a) := Poly.ext fun i => by
  rw [ofL_c, Poly.const_c]
  cases i with
  | zero => rfl
  | succ i => rw [if_neg (by omega), co_succ, co_nil]; rfl
theorem ofL_addI (f g : List Int) : ofL m (K.addI f g) = ofL m f + ofL m g := Poly.ext fun i => by
  rw [Poly.add_c, ofL_c, addI_co]
  rfl
theorem ofL_conv (f g : List Int) : ofL m (conv m f g) = ofL m f * ofL m g := Poly.ext fun i => by
  rw [Poly.mul_c, ofL_c, mk_eq.mpr (conv_co m f g i), mk_cv]
  rfl
theorem Red.inj (hm : 0 < m) {A B : List Int} (ha : Red m A) (hb : Red m B) (h : ofL m A = ofL m B) : A = B := ha.ext hm hb (ofL_eq.mp h)
theorem ofL_redI_eq (hm : 0 < m) {A B : List Int} (h : ofL m A = ofL m B) : redI m A = redI m B := redI_ext hm (ofL_eq.mp h)
theorem ev_ofL (x : Int) (L : List Int) : Poly.ev (mk m x) (ofL m L) = mk m (evZ x L) := by
  rw [Poly.ev_eq (n := L.length) fun i hi => by rw [ofL_c, co_ge hi]; rfl]
  unfold evZ
  rw [mk_sum]
  exact gs_congr fun i _ => by rw [mk_mul, mk_pow]; rfl
theorem ev_horI (x : Int) (L : List Int) : mk m (horI m x L) = Poly.ev (mk m x) (ofL m L) := by
  rw [ev_ofL]
  exact mk_eq.mpr (horI_cg m x L)
def ofR (m : Int) (A : List (List Int)) : Poly (Poly (Zm m)) := ⟨fun i => ofL m (ro A i), A.length, fun i hi => by rw [ro_ge hi]; exact ofL_nil⟩
theorem ofR_c (A : List (List Int)) (i : Nat) : (ofR m A).c i = ofL m (ro A i) := rfl
theorem ofR_eq {A B : List (List Int)} : ofR m A = ofR m B ↔ ∀ i j, Cg m (co2 A i j) (co2 B i j) := by
  constructor
  · exact fun h i => ofL_eq.mp (congrFun (congrArg Poly.c h) i)
  · exact fun h => Poly.ext fun i => ofL_eq.mpr (h i)
theorem ofR_trim2 (A : List (List Int)) : ofR m (trim2 m A) = ofR m A := ofR_eq.mpr (trim2_cg m A)
theorem Red2.inj (hm : 0 < m) {A B : List (List Int)} (ha : Red2 m A) (hb : Red2 m B) (h : ofR m A = ofR m B) : A = B := ha.ext hm hb (ofR_eq.mp h)
theorem trim2_eq (hm : 0 < m) {A B : List (List Int)} (h : ofR m A = ofR m B) : trim2 m A = trim2 m B := trim2_ext hm (ofR_eq.mp h)
theorem ofR_nil : ofR m [] = 0 := Poly.ext fun i => by rw [Poly.zero_c, ofR_c, ro_nil, ofL_nil]
/-- the value at two -/
noncomputable def at2 (x y : Zm m) : Hom (Poly (Poly (Zm m))) (Zm m) := (Hom.atx y).map.comp (Hom.atx x)
theorem at2_ofR (x y : Int) (A : List (List Int)) : (at2 (mk m x) (mk m y)).f (ofR m A) = mk m (evZ x (A.map (evZ y))) := by
  show Poly.ev (mk m x) ((Hom.atx (mk m y)).map.f (ofR m A)) = _
  rw [← ev_ofL]
  congr 1
  refine Poly.ext fun i => ?_
  show Poly.ev (mk m y) (ofL m (ro A i)) = mk m (co (A.map (evZ y)) i)
  rw [ev_ofL]
  congr 1
  by_cases h : i < A.length
  · simp [ro, co, h]
  · rw [ro_ge (Nat.le_of_not_lt h), co_ge (by simpa using Nat.le_of_not_lt h)]
    rfl
end
end Al
end
section
namespace Al
open Lean.Grind Ev
namespace Poly
section
variable {R : Type} [CommRing R]
def mono (k : Nat) (a : R) : Poly R := ⟨fun i => if i = k then a else 0, k + 1, fun i hi => if_neg (by omega)⟩
theorem mono_c (k : Nat) (a : R) (i : Nat) : (mono k a).c i = if i = k then a else 0 := rfl
theorem mono_mul (k l : Nat) (a b : R) : mono k a * mono l b = mono (k + l) (a * b) := ext fun i => by
  show gs (i + 1) (fun j => (if j = k then a else 0) * (if i - j = l then b else 0)) = if i = k + l then a * b else 0
  by_cases h : i = k + l
  · rw [if_pos h, gs_one (k := k) (by omega) fun j _ hj => by rw [if_neg hj]; grind, if_pos rfl, if_pos (by omega)]
  · rw [if_neg h]
    refine gs_zero fun j hj => ?_
    by_cases h1 : j = k
    · rw [if_pos h1, if_neg (by omega)]; grind
    · rw [if_neg h1]; grind
theorem mono_add (k : Nat) (a b : R) : mono k (a + b) = mono k a + mono k b := ext fun i => by
  rw [add_c, mono_c, mono_c, mono_c]
  by_cases h : i = k
  · simp only [h, if_true]
  · simp only [h, if_false]; grind
theorem mono_zero (k : Nat) : mono k (0 : R) = 0 := ext fun i => by
  rw [mono_c, zero_c, ite_self]
theorem const_mono (a : R) : const a = mono 0 a := rfl
theorem const_zero : const (0 : R) = 0 := rfl
theorem const_one : const (1 : R) = 1 := rfl
end
end Poly
open Poly
section
variable {m : Int}
theorem ofL_set {L : List Int} {k : Nat} (h : k < L.length) (a : Int) : ofL m (L.set k (co L k + a)) = ofL m L + mono k (mk m a) := Poly.ext fun i => by
  rw [add_c, ofL_c, ofL_c, mono_c, getD_set _ _ _ _ h]
  by_cases e : i = k
  · rw [if_pos e, if_pos e, e]; rfl
  · rw [if_neg e, if_neg e]; grind
theorem ofR_set {T : List (List Int)} {k : Nat} (h : k < T.length) {r : List Int} {p : Poly (Zm m)} (e : ofL m r = ofL m (ro T k) + p) : ofR m (T.set k r) = ofR m T + mono k p := Poly.ext fun i => by
  rw [add_c, ofR_c, ofR_c, mono_c, ro_set _ _ _ _ h]
  by_cases e2 : i = k
  · rw [if_pos e2, if_pos e2, e2, e]
  · rw [if_neg e2, if_neg e2]; grind
theorem ofL_take {L : List Int} (k : Nat) (h : k < L.length) : ofL m (L.take (k + 1)) = ofL m (L.take k) + mono k (mk m (co L k)) := Poly.ext fun i => by
  rw [add_c, ofL_c, ofL_c, mono_c]
  unfold co
  by_cases e : i = k
  · subst e
    simp [List.getElem?_take, h]
    show _ = (0 : Zm m) + _
    grind
  · rw [if_neg e]
    by_cases e2 : i < k
    · have e3 : i < k + 1 := by omega
      simp [List.getElem?_take, e2, e3]
      grind
    · have e3 : ¬ i < k + 1 := by omega
      simp [List.getElem?_take, e2, e3]
      show (0 : Zm m) = 0 + 0
      grind
theorem ofR_take {A : List (List Int)} (k : Nat) (h : k < A.length) : ofR m (A.take (k + 1)) = ofR m (A.take k) + mono k (ofL m (ro A k)) := Poly.ext fun i => by
  rw [add_c, ofR_c, ofR_c, mono_c]
  unfold ro
  by_cases e : i = k
  · subst e
    simp [List.getElem?_take, h]
    rw [ofL_nil]
    grind
  · rw [if_neg e]
    by_cases e2 : i < k
    · have e3 : i < k + 1 := by omega
      simp [List.getElem?_take, e2, e3]
      grind
    · have e3 : ¬ i < k + 1 := by omega
      simp [List.getElem?_take, e2, e3]
      rw [ofL_nil]
      grind
theorem ofR_zeros {T : List (List Int)} (h : ∀ i j, co2 T i j = 0) : ofR m T = 0 := by
  rw [← ofR_nil]
  exact ofR_eq.mpr fun i j => by rw [h]; unfold co2; rw [ro_nil, co_nil]; exact Cg.refl _ _
end
section
variable {R S : Type} [CommRing R] [CommRing S]
def hoR (V : R) (c : Int → R) : List Int → R
  | [] => 0
  | a :: r => hoR V c r * V + c a
def ho2 (U V : R) (c : Int → R) : List (List Int) → R
  | [] => 0
  | r :: P => ho2 U V c P * U + hoR V c r
/-- the same by powers -/
def poR (V : R) (c : Int → R) : Nat → List Int → R
  | _, [] => 0
  | k, a :: r => c a * V ^ k + poR V c (k + 1) r
def po2 (U V : R) (c : Int → R) : Nat → List (List Int) → R
  | _, [] => 0
  | k, r :: P => poR V c 0 r * U ^ k + po2 U V c (k + 1) P
theorem poR_eq (V : R) (c : Int → R) : ∀ (r : List Int) (k : Nat), poR V c k r = hoR V c r * V ^ k
  | [], k => by show (0 : R) = 0 * V ^ k; grind
  | a :: r, k => by
    show c a * V ^ k + poR V c (k + 1) r = (hoR V c r * V + c a) * V ^ k
    rw [poR_eq V c r (k + 1), Semiring.pow_succ]
    grind
theorem po2_eq (U V : R) (c : Int → R) : ∀ (P : List (List Int)) (k : Nat), po2 U V c k P = ho2 U V c P * U ^ k
  | [], k => by show (0 : R) = 0 * U ^ k; grind
  | r :: P, k => by
    show poR V c 0 r * U ^ k + po2 U V c (k + 1) P = (ho2 U V c P * U + hoR V c r) * U ^ k
    rw [po2_eq U V c P (k + 1), poR_eq, Semiring.pow_succ, Semiring.pow_zero]
    grind
theorem hoR_hom (h : Hom R S) (V : R) (c : Int → R) : ∀ r, h.f (hoR V c r) = hoR (h.f V) (fun a => h.f (c a)) r
  | [] => h.zero
  | a :: r => by
    show h.f (hoR V c r * V + c a) = hoR (h.f V) _ r * h.f V + h.f (c a)
    rw [h.add, h.mul, hoR_hom h V c r]
theorem ho2_hom (h : Hom R S) (U V : R) (c : Int → R) : ∀ P, h.f (ho2 U V c P) = ho2 (h.f U) (h.f V) (fun a => h.f (c a)) P
  | [] => h.zero
  | r :: P => by
    show h.f (ho2 U V c P * U + hoR V c r) = ho2 (h.f U) (h.f V) _ P * h.f U + hoR (h.f V) _ r
    rw [h.add, h.mul, ho2_hom h U V c P, hoR_hom]
end
section
variable {m : Int}
theorem hoR_mk (v : Int) : ∀ r, hoR (mk m v) (mk m) r = mk m (evZ v r)
  | [] => rfl
  | a :: r => by
    show hoR (mk m v) (mk m) r * mk m v + mk m a = _
    rw [hoR_mk v r, evZ_cons, Zm.mk_add, Zm.mk_mul]
    grind
theorem ho2_mk (u v : Int) : ∀ P, ho2 (mk m u) (mk m v) (mk m) P = mk m (evZ u (P.map (evZ v)))
  | [] => rfl
  | r :: P => by
    show ho2 (mk m u) (mk m v) (mk m) P * mk m u + hoR (mk m v) (mk m) r = _
    rw [ho2_mk u v P, hoR_mk, List.map_cons, evZ_cons, Zm.mk_add, Zm.mk_mul]
    grind
def cc (m a : Int) : Poly (Poly (Zm m)) := Poly.const (Poly.const (mk m a))
theorem ofR_one (a : Int) : ofR m [[a]] = cc m a := Poly.ext fun i => by
  show ofL m (ro [[a]] i) = if i = 0 then Poly.const (mk m a) else 0
  cases i with
  | zero => rw [if_pos rfl]; exact ofL_one a
  | succ i => rw [if_neg (by omega)]; exact ofL_nil
theorem at2_cc (x y : Zm m) (a : Int) : (at2 x y).f (cc m a) = mk m a := by
  show Poly.ev x ((Hom.atx y).map.f (Poly.const (Poly.const (mk m a)))) = _
  have e : (Hom.atx y).map.f (Poly.const (Poly.const (mk m a))) = Poly.const (mk m a) := Poly.ext fun i => by
    show Poly.ev y (if i = 0 then Poly.const (mk m a) else 0) = if i = 0 then mk m a else 0
    by_cases h : i = 0
    · rw [if_pos h, if_pos h, ev_const]
    · rw [if_neg h, if_neg h, ev_zero]
  rw [e, ev_const]
/-- the value of one put upon two others -/
theorem at2_ho2 (x y u v : Int) (U V : Poly (Poly (Zm m))) (hu : (at2 (mk m x) (mk m y)).f U = mk m u) (hv : (at2 (mk m x) (mk m y)).f V = mk m v) (P : List (List Int)) :
    (at2 (mk m x) (mk m y)).f (ho2 U V (cc m) P) = (at2 (mk m u) (mk m v)).f (ofR m P) := by
  rw [ho2_hom, hu, hv, at2_ofR]
  have e : (fun a => (at2 (mk m x) (mk m y)).f (cc m a)) = mk m := funext fun a => at2_cc _ _ a
  rw [e, ho2_mk]
end
end Al
namespace Ev
namespace K
def subI (f g : List Int) : List Int := (List.range (max f.length g.length)).map fun k => f.getD k 0 - g.getD k 0
end K
theorem subI_co (f g : List Int) (j : Nat) : co (K.subI f g) j = co f j - co g j := by
  unfold K.subI
  by_cases h : j < max f.length g.length
  · simp [co, h]
  · rw [co_ge (by simpa using Nat.le_of_not_lt h), co_ge (L := f) (by omega), co_ge (L := g) (by omega)]
    rfl
end Ev
namespace Al
open Lean.Grind Ev
theorem ofL_subI {m : Int} (f g : List Int) : ofL m (K.subI f g) = ofL m f - ofL m g := Poly.ext fun i => by
  rw [Poly.sub_c, ofL_c, subI_co]
  rfl
section
variable {R : Type} [CommRing R]
theorem gs_c (f : Nat → Poly R) (j : Nat) : ∀ n, (gs n f).c j = gs n fun k => (f k).c j
  | 0 => Poly.zero_c j
  | n + 1 => by
    show (gs n f + f n).c j = _
    rw [Poly.add_c, gs_c f j n]
    rfl
def Deg2 (p : Poly (Poly R)) (N : Nat) : Prop := ∀ i j, N ≤ j → (p.c i).c j = 0
theorem Deg2.mul {p q : Poly (Poly R)} {N M : Nat} (hp : Deg2 p N) (hq : Deg2 q M) : Deg2 (p * q) (N + M) := fun i j hj => by
  rw [Poly.mul_c]
  unfold cvR
  rw [gs_c]
  exact gs_zero fun k _ => Poly.cv_fin (hp k) (hq (i - k)) hj
end
theorem deg_ofR {m : Int} {A : List (List Int)} {N : Nat} (h : ∀ r ∈ A, r.length ≤ N) : Deg2 (ofR m A) N := fun i j hj => by
  show mk m (co (ro A i) j) = 0
  rw [co_ge]
  · rfl
  · by_cases e : ro A i = []
    · rw [e]; simp
    · exact Nat.le_trans (h _ (ro_mem e)) hj
theorem deg_rows {m : Int} (hm : 0 < m) {A : List (List Int)} (hr : Red2 m A) {N : Nat} (h : Deg2 (ofR m A) N) : ∀ r ∈ A, r.length ≤ N := fun r hA => by
  obtain ⟨i, hi, rfl⟩ := List.getElem_of_mem hA
  by_cases e : A[i].length ≤ N
  · exact e
  have hne : A[i] ≠ [] := fun z => e (by rw [z]; simp)
  have hl := (hr.row hA).last hne
  have hp : 0 < A[i].length := List.length_pos_iff.mpr hne
  have hlt : A[i].length - 1 < A[i].length := by omega
  have h1 := h i (A[i].length - 1) (by omega)
  have hro : ro A i = A[i] := by simp [ro, hi]
  have h2 : mk m (co (ro A i) (A[i].length - 1)) = mk m 0 := h1
  rw [hro] at h2
  have h3 := (mk_eq.mp h2).eq hm
  rw [(hr.row hA).co] at h3
  rw [List.getLast_eq_getElem] at hl
  refine absurd ?_ hl
  have h4 : co A[i] (A[i].length - 1) = A[i][A[i].length - 1] := by simp [co, hlt]
  rw [← h4, h3]
  simp
end Al
end
section
namespace Ev
open PySem
section
variable {sg : Sig} {call : Call} {pins : List Nat} {e : Env} {EX : Exn → Env → Prop}
theorem enumD_map {T : Type} (g : T → D) (l : List T) : enumD (l.map g) = l.zipIdx.map fun p => .tuple [.int (p.2 : Int), g p.1] := by
  unfold enumD
  rw [List.zipIdx_map, List.map_map]
  rfl
/-- what is left of an enumerated list -/
theorem zip_step {T : Type} {l : List T} {i : Nat} {t : T × Nat} {rest : List (T × Nat)} (h : (l.drop i).zipIdx i = t :: rest) : ∃ hi : i < l.length, t = (l[i], i) ∧ rest = (l.drop (i + 1)).zipIdx (i + 1) := by
  by_cases hi : i < l.length
  · refine ⟨hi, ?_⟩
    rw [List.drop_eq_getElem_cons hi, List.zipIdx_cons] at h
    cases h
    exact ⟨rfl, rfl⟩
  · rw [List.drop_eq_nil_of_le (Nat.le_of_not_lt hi)] at h
    cases h
theorem zip_end {T : Type} {l : List T} {i : Nat} (h : (l.drop i).zipIdx i = []) : l.length ≤ i := by
  by_cases hi : i < l.length
  · rw [List.drop_eq_getElem_cons hi, List.zipIdx_cons] at h
    cases h
  · exact Nat.le_of_not_lt hi
theorem zip_start {T : Type} (l : List T) : l.zipIdx = (l.drop 0).zipIdx 0 := by simp
/-- a row of a table, lent -/
theorem W_lend {h i : Nat} {ix body : C} {dss : List (List D)} {Q : Fl → Env → Prop} (he : e[i]? = some (some (.own2 dss)))
    (hx : WPX EX ((do let y ← (den sg call pins ix).P; intOf y) e) (fun k e1 => ∃ n row, e1[i]? = some (some (.own2 dss)) ∧ L2.ixN dss.length k = some n ∧ dss[n]? = some row ∧ pins.contains h = false ∧ h < e1.length ∧
      RSX EX sg call (h :: i :: pins) body (fun fl e2 => fl = .nx ∧ ∃ row', e2[h]? = some (some (.own (.list row'))) ∧ Q .nx ((e2.set h none).set i (some (.own2 (dss.set n row'))))) ((e1.set h (some (.own (.list row)))).set i none))) :
    WPX EX ((den sg call pins (.lend h i ix body)).S e) Q := by
  simp only [den, W_bind, W_get] at hx ⊢
  refine ⟨_, he, ?_⟩
  rw [W_isL2]
  refine W_mono hx fun y e1 h1 => W_mono h1 ?_
  rintro k e2 ⟨n, row, h2, h3, h4, h5, h6, h7⟩
  refine ⟨_, h2, ?_⟩
  simp only [W_bind, W_lift]
  refine ⟨n, h3, row, h4, ?_⟩
  rw [W_sti]
  refine ⟨⟨h5, h6⟩, ?_⟩
  rw [W_put]
  refine W_mono (RS_iff.mp h7) ?_
  rintro fl e3 ⟨rfl, row', h8, h9⟩
  simp only [W_bind, W_get]
  refine ⟨_, h8, ?_⟩
  simp only [W_bind, W_put, W_pure]
  exact h9
@[simp] theorem W_shV {d : D} {Q : Sl → Env → Prop} : WPX EX (share pins (.val (.imm d)) e) Q ↔ Q (.imm d) e := by
  show WPX EX (liftO (Sl.imm d).share e) Q ↔ _
  simp [Sl.share]
/-- a table that is made -/
theorem W_lc2 {T : Type} {i : Nat} {vs : List Nat} {tg it cond body : C} (xs : T → D) (l : List T) (h : T → List D) (e0 : Env) {Q : Fl → Env → Prop}
    (hit : WPX EX ((den sg call pins it).I e) (fun ds e1 => ds = l.map xs ∧ WPX EX (kills pins vs e1) (fun _ e2 => e2 = e0)))
    (hs : ∀ t ∈ l, WPX NE ((den sg call pins tg).G (xs t) e0) (fun _ e1 => WPX NE ((do let c ← (den sg call pins cond).P; boolOf c) e1) (fun b e2 => b = true ∧ WPX NE ((den sg call pins body).E e2) (fun tv e3 => WPX NE (newL tv e3) (fun d e4 => d = .list (h t) ∧ WPX NE (kills pins vs e4) (fun _ e5 => e5 = e0))))))
    (hl : l.length < lim) (hp : pins.contains i = false) (hi : i < e0.length) (q : Q .nx (e0.set i (some (.own2 (l.map h))))) : WPX EX ((den sg call pins (.lc2 i vs tg it cond body)).S e) Q := by
  simp only [den, W_bind]
  refine W_tbl h hit hs hl ?_
  rw [W_sti]
  exact ⟨⟨hp, hi⟩, W_pure.mpr q⟩
theorem RS_mono {r : C} {Q Q' : Fl → Env → Prop} (h : RSX EX sg call pins r Q e) (k : ∀ fl e1, Q fl e1 → Q' fl e1) : RSX EX sg call pins r Q' e := RS_iff.mpr (W_mono (RS_iff.mp h) k)
end
open Al in
/-- a POLY2 of m, kept so, that is this one, of at most so many rows and places -/
structure Is2 (m : Int) (A : List (List Int)) (p : Poly (Poly (Zm m))) (a b : Nat) : Prop where
  red : Red2 m A
  is : ofR m A = p
  la : A.length ≤ a
  lb : ∀ r ∈ A, r.length ≤ b
open Al in
theorem Is2.trim {m : Int} (hm : 0 < m) {A : List (List Int)} {p : Poly (Poly (Zm m))} {a b : Nat} (h : ofR m A = p) (ha : A.length ≤ a) (hb : ∀ r ∈ A, r.length ≤ b) : Is2 m (trim2 m A) p a b :=
  ⟨trim2_red hm A, (ofR_trim2 A).trans h, by
    have := trimE_len (A.map (redI m))
    simp at this
    exact Nat.le_trans this ha, fun r hr => by
    obtain ⟨r', h', rfl⟩ := List.mem_map.mp (trimE_mem _ _ hr)
    have h1 := redI_len m r'
    have h2 := hb r' h'
    omega⟩
open Al in
theorem Is2.eq {m : Int} (hm : 0 < m) {A B : List (List Int)} {p : Poly (Poly (Zm m))} {a b c d : Nat} (h : Is2 m A p a b) (k : Is2 m B p c d) : A = B := Al.Red2.inj hm h.red k.red (h.is.trans k.is.symm)
theorem Ts_set (T : List (List Int)) (k : Nat) (r : List Int) : (Ts T).set k (.tuple (Zs r)) = Ts (T.set k r) := by simp
theorem ro_len {A : List (List Int)} {b : Nat} (h : ∀ r ∈ A, r.length ≤ b) (i : Nat) : (ro A i).length ≤ b := by
  by_cases e : ro A i = []
  · rw [e]; exact Nat.zero_le _
  · exact h _ (ro_mem e)
open Al in
/-- a product's places -/
theorem Is2.deg {m : Int} (hm : 0 < m) {T A B : List (List Int)} {a b c d : Nat} (h : Is2 m T (ofR m A * ofR m B) a b) (hA : ∀ r ∈ A, r.length ≤ c) (hB : ∀ r ∈ B, r.length ≤ d) : Is2 m T (ofR m A * ofR m B) a (c + d) :=
  ⟨h.red, h.is, h.la, deg_rows hm h.red (by rw [h.is]; exact (deg_ofR hA).mul (deg_ofR hB))⟩
/-- any drawn whole number -/
structure WholeQ (k : Int) (cs : List Int) (sp : Int) (s : Sl) (fin : List Sl) : Prop where
  ex : ∃ v sp' h', s = .imm (.int v) ∧ fin = [.own (tapeD cs sp' h')] ∧ sp ≤ sp' ∧ sp' ≤ sp + k ∧ 0 ≤ h'
/-- any POLY2 that is drawn -/
structure SomeQ (m : Int) (most : Nat) (cs : List Int) (sp : Int) (s : Sl) (fin : List Sl) : Prop where
  ex : ∃ A sp' h', s = .imm (.tuple (Ts A)) ∧ fin = [.own (tapeD cs sp' h'), .imm .none, .imm .none] ∧ Is2 m A (Al.ofR m A) (most + 1) (most + 1) ∧ sp ≤ sp' ∧ sp' ≤ sp + 210 ∧ 0 ≤ h'
end Ev
end
section
namespace Ev
def facI : Nat → Int
  | 0 => 1
  | k + 1 => facI k * ((k : Int) + 1)
theorem facI_pos : ∀ k, 0 < facI k
  | 0 => by decide
  | k + 1 => Int.mul_pos (facI_pos k) (by omega)
def gcI (a b : Int) : Int := (Int.gcd a b : Int)
theorem gcI_nn (a b : Int) : 0 ≤ gcI a b := Int.natCast_nonneg _
theorem gcI_pos {a b : Int} (h : 0 < a) : 0 < gcI a b := by
  have : 0 < Int.gcd a b := Int.gcd_pos_iff.mpr (.inl (by omega))
  unfold gcI
  omega
theorem gcI_le {a b : Int} (h : 0 < a) : gcI a b ≤ a := Int.le_of_dvd h (Int.gcd_dvd_left ..)
theorem gcI_step (a b : Int) : gcI b (a.fmod b) = gcI a b := by
  unfold gcI
  congr 1
  have e : a.fmod b = a - b * a.fdiv b := by
    have := Int.mul_fdiv_add_fmod a b
    omega
  rw [e]
  refine Nat.dvd_antisymm (Int.dvd_gcd ?_ ?_) (Int.dvd_gcd ?_ ?_)
  all_goals try exact Int.natAbs_dvd_natAbs.mp (by first | exact Int.gcd_dvd_left .. | exact Int.gcd_dvd_right ..)
  · have h1 : ((Int.gcd b (a - b * a.fdiv b) : Nat) : Int) ∣ b := Int.gcd_dvd_left ..
    have h2 : ((Int.gcd b (a - b * a.fdiv b) : Nat) : Int) ∣ a - b * a.fdiv b := Int.gcd_dvd_right ..
    have h3 := Int.dvd_add h2 (Int.dvd_mul_of_dvd_left h1 (c := a.fdiv b))
    have e2 : a - b * a.fdiv b + b * a.fdiv b = a := by omega
    rw [e2] at h3
    exact h3
  · exact Int.gcd_dvd_left ..
  · exact Int.gcd_dvd_right ..
  · have h1 : ((Int.gcd a b : Nat) : Int) ∣ a := Int.gcd_dvd_left ..
    have h2 : ((Int.gcd a b : Nat) : Int) ∣ b := Int.gcd_dvd_right ..
    exact Int.dvd_sub h1 (Int.dvd_mul_of_dvd_left h2 (c := a.fdiv b))
theorem gcI_zero {a : Int} (h : 0 ≤ a) : gcI a 0 = a := by
  unfold gcI
  rw [Int.gcd_zero_right]
  omega
theorem gcI_abs (a b : Int) : gcI (if a < 0 then -a else a) (if b < 0 then -b else b) = gcI a b := by
  unfold gcI
  congr 1
  by_cases h : a < 0 <;> by_cases k : b < 0 <;> simp [h, k]
theorem gcI_comm (a b : Int) : gcI a b = gcI b a := by
  unfold gcI
  rw [Int.gcd_comm]
/-- the top of a cell -/
def topI (m : Int) (i j : Nat) : Int := m.fdiv (gcI m (facI i * facI j))
theorem fdiv_mul_of {m g : Int} (hg : 0 < g) (h : g ∣ m) : m.fdiv g * g = m := by
  rw [Int.fdiv_eq_ediv_of_nonneg _ (by omega)]
  exact Int.ediv_mul_cancel h
theorem top_mul {m : Int} (hm : 0 < m) (i j : Nat) : topI m i j * gcI m (facI i * facI j) = m := fdiv_mul_of (gcI_pos hm) (Int.gcd_dvd_left ..)
theorem top_pos {m : Int} (hm : 0 < m) (i j : Nat) : 0 < topI m i j := by
  have h := top_mul hm i j
  have h2 := gcI_pos (b := facI i * facI j) hm
  rcases Int.lt_trichotomy (topI m i j) 0 with z | z | z
  · have := Int.mul_neg_of_neg_of_pos z h2
    omega
  · rw [z] at h
    simp at h
    omega
  · exact z
theorem top_dvd {m : Int} (hm : 0 < m) (i j : Nat) : topI m i j ∣ m := ⟨_, (top_mul hm i j).symm⟩
theorem top_le {m : Int} (hm : 0 < m) (i j : Nat) : topI m i j ≤ m := Int.le_of_dvd hm (top_dvd hm i j)
end Ev
namespace Ev
theorem facI_small {k : Nat} (h : k ≤ 100) : facI k < 2 ^ 1000 := by
  have h1 : (List.range 101).all (fun k => decide (facI k < 2 ^ 1000)) = true := by decide +kernel
  exact of_decide_eq_true (List.all_eq_true.mp h1 k (List.mem_range.mpr (by omega)))
theorem facI_abs {k : Nat} (h : k ≤ 100) : (facI k).natAbs < 2 ^ 4096 := by
  have h1 := facI_small h
  have h2 := facI_pos k
  have h3 : (2 : Nat) ^ 1000 ≤ 2 ^ 4096 := Nat.pow_le_pow_right (by decide) (by decide)
  have h4 : ((facI k).natAbs : Int) < ((2 ^ 1000 : Nat) : Int) := by
    rw [Int.natCast_pow]
    have : ((facI k).natAbs : Int) = facI k := by omega
    rw [this]
    exact h1
  have h5 : (facI k).natAbs < 2 ^ 1000 := Int.ofNat_lt.mp h4
  exact Nat.lt_of_lt_of_le h5 h3
/-- 2 * 3 * .. * i -/
def riseL (i : Nat) : List Int := (List.range (i - 1)).map fun (k : Nat) => 2 + (k : Int)
def prodL : List Int → Int
  | [] => 1
  | a :: l => a * prodL l
theorem prodL_app : ∀ a b : List Int, prodL (a ++ b) = prodL a * prodL b
  | [], b => (Int.one_mul _).symm
  | x :: a, b => by
    show x * prodL (a ++ b) = x * prodL a * prodL b
    rw [prodL_app a b, Int.mul_assoc]
theorem prodL_rise : ∀ i, prodL (riseL i) = facI i
  | 0 => rfl
  | 1 => rfl
  | i + 2 => by
    have h : riseL (i + 2) = riseL (i + 1) ++ [2 + (i : Int)] := by
      unfold riseL
      show (List.range (i + 1)).map _ = _
      rw [List.range_succ, List.map_append]
      rfl
    rw [h, prodL_app, prodL_rise (i + 1)]
    show facI (i + 1) * ((2 + (i : Int)) * 1) = facI (i + 1) * (((i + 1 : Nat) : Int) + 1)
    congr 1
    omega
/-- the least k with m below k! -/
def IsHigh (m : Int) (k : Nat) : Prop := m ∣ facI k ∧ ∀ j, j < k → ¬ m ∣ facI j
theorem IsHigh.eq {m : Int} {k l : Nat} (h : IsHigh m k) (h2 : IsHigh m l) : k = l := by
  rcases Nat.lt_trichotomy k l with z | z | z
  · exact (h2.2 k z h.1).elim
  · exact z
  · exact (h.2 l z h2.1).elim
theorem dvd_fac {m : Int} (hm : 0 < m) : ∀ {k : Nat}, m ≤ (k : Int) → m ∣ facI k
  | 0, h => absurd h (by omega)
  | k + 1, h => by
    by_cases e : m = (k : Int) + 1
    · rw [e]
      exact Int.dvd_mul_left ..
    · exact Int.dvd_mul_of_dvd_left (dvd_fac hm (k := k) (by omega))
theorem gcI_mul (m F k : Int) (hm : 0 < m) : gcI m (F * k) = gcI m F * gcI (m.fdiv (gcI m F)) k := by
  have hg := gcI_pos (b := F) hm
  obtain ⟨a, ha⟩ : gcI m F ∣ m := Int.gcd_dvd_left ..
  obtain ⟨b, hb⟩ : gcI m F ∣ F := Int.gcd_dvd_right ..
  have e1 : m.fdiv (gcI m F) = a := by
    rw [Int.fdiv_eq_ediv_of_nonneg _ (by omega)]
    exact Int.ediv_eq_of_eq_mul_right (by omega) ha
  rw [e1]
  obtain ⟨g, hgd⟩ : ∃ g, g = gcI m F := ⟨_, rfl⟩
  rw [← hgd] at ha hb hg ⊢
  have hco : Int.gcd a b = 1 := by
    have h1 : Int.gcd (g * a) (g * b) = g.natAbs * Int.gcd a b := Int.gcd_mul_left ..
    rw [← ha, ← hb] at h1
    have h2 : (Int.gcd m F : Int) = g := hgd.symm
    have h3 : g.natAbs = Int.gcd m F := by omega
    rw [h3] at h1
    have h4 : 0 < Int.gcd m F := by omega
    exact Nat.eq_of_mul_eq_mul_left h4 (by omega)
  have h5 : gcI m (F * k) = g * gcI a (b * k) := by
    unfold gcI
    rw [ha, hb, Int.mul_assoc, Int.gcd_mul_left, Int.natCast_mul]
    congr 1
    omega
  rw [h5]
  congr 1
  unfold gcI
  congr 1
  show Nat.gcd a.natAbs (b * k).natAbs = Nat.gcd a.natAbs k.natAbs
  rw [Int.natAbs_mul]
  exact Nat.Coprime.gcd_mul_left_cancel_right _ (Nat.Coprime.symm hco)
end Ev
namespace Ev
theorem co_ix {L : List Int} {j : Nat} (h : j < L.length) : co L j = L[j] := by simp [co, h]
end Ev
end
section
namespace Ev
def synI (m k : Int) : List Int → List Int
  | [] => []
  | a :: L => ((synI m k L).headD 0 * k + a).fmod m :: synI m k L
/-- the parts by 1, x, x (x - 1), .. -/
def splitN (m : Int) : Nat → Nat → List Int → List Int
  | 0, _, _ => []
  | n + 1, k, L => (synI m k L).headD 0 :: splitN m n (k + 1) (synI m k L).tail
def unp (m k : Int) : List Int → List Int
  | [] => []
  | [a] => [a]
  | a :: b :: r => (a - k * b).fmod m :: unp m k (b :: r)
def unsplitN (m : Int) : Nat → List Int → List Int
  | _, [] => []
  | k, a :: r => unp m k (a :: unsplitN m (k + 1) r)
theorem synI_len (m k : Int) : ∀ L : List Int, (synI m k L).length = L.length
  | [] => rfl
  | a :: L => congrArg (· + 1) (synI_len m k L)
theorem splitN_len (m : Int) : ∀ (n k : Nat) (L : List Int), (splitN m n k L).length = n
  | 0, _, _ => rfl
  | n + 1, k, L => congrArg (· + 1) (splitN_len m n (k + 1) _)
theorem unp_len (m k : Int) : ∀ L : List Int, (unp m k L).length = L.length
  | [] => rfl
  | [a] => rfl
  | a :: b :: r => congrArg (· + 1) (unp_len m k (b :: r))
theorem unsplitN_len (m : Int) : ∀ (k : Nat) (L : List Int), (unsplitN m k L).length = L.length
  | _, [] => rfl
  | k, a :: r => by
    show (unp m k (a :: unsplitN m (k + 1) r)).length = _
    rw [unp_len]
    exact congrArg (· + 1) (unsplitN_len m (k + 1) r)
theorem synI_bd {m k : Int} (hm : 0 < m) : ∀ {L : List Int}, ∀ a ∈ synI m k L, 0 ≤ a ∧ a < m
  | [], a, h => nomatch h
  | b :: L, a, h => by
    rcases List.mem_cons.mp h with h | h
    · rw [h]
      exact ⟨Int.fmod_nonneg_of_pos _ hm, Int.fmod_lt_of_pos _ hm⟩
    · exact synI_bd hm a h
theorem headD_bd {m : Int} (hm : 0 < m) {L : List Int} (h : ∀ a ∈ L, 0 ≤ a ∧ a < m) : 0 ≤ L.headD 0 ∧ L.headD 0 < m := by
  cases L with
  | nil => exact ⟨Int.le_refl _, hm⟩
  | cons a L => exact h a (List.mem_cons_self ..)
theorem splitN_bd {m : Int} (hm : 0 < m) : ∀ (n k : Nat) (L : List Int), ∀ a ∈ splitN m n k L, 0 ≤ a ∧ a < m
  | 0, _, _, a, h => nomatch h
  | n + 1, k, L, a, h => by
    rcases List.mem_cons.mp h with h | h
    · rw [h]
      exact headD_bd hm (synI_bd hm)
    · exact splitN_bd hm n (k + 1) _ a h
def padR (w : Nat) (r : List Int) : List Int := r ++ List.replicate (w - r.length) 0
theorem padR_co (w : Nat) (r : List Int) (j : Nat) : co (padR w r) j = co r j := by
  unfold padR co
  by_cases h : j < r.length
  · simp [List.getElem?_append_left h]
  · rw [List.getD_eq_getElem?_getD, List.getElem?_append_right (Nat.le_of_not_lt h), List.getD_eq_getElem?_getD, List.getElem?_eq_none (Nat.le_of_not_lt h)]
    by_cases h2 : j - r.length < w - r.length
    · simp [h2]
    · simp [h2]
theorem padR_len {w : Nat} {r : List Int} (h : r.length ≤ w) : (padR w r).length = w := by
  unfold padR
  simp
  omega
/-- column by column -/
def turnI (h w : Nat) (C : List (List Int)) : List (List Int) := (List.range h).map fun i => (List.range w).map fun j => co (ro C j) i
def colI (A : List (List Int)) (j : Nat) : List Int := A.map fun r => co r j
/-- the parts of a POLY2 -/
def partsI (m : Int) (A : List (List Int)) : List (List Int) :=
  turnI A.length (widI A).toNat ((List.range (widI A).toNat).map fun j => splitN m A.length 0 (colI (A.map fun r => splitN m (widI A).toNat 0 (padR (widI A).toNat r)) j))
/-- what such parts sum to -/
def unpartsI (m : Int) (T : List (List Int)) : List (List Int) :=
  turnI T.length (widI T).toNat ((List.range (widI T).toNat).map fun j => unsplitN m 0 (colI (T.map fun r => unsplitN m 0 (padR (widI T).toNat r)) j))
theorem turnI_co (h w : Nat) (C : List (List Int)) (i j : Nat) : co2 (turnI h w C) i j = if i < h then (if j < w then co (ro C j) i else 0) else 0 := by
  unfold turnI co2
  rw [ro_rangeMap]
  by_cases hi : i < h
  · rw [if_pos hi, if_pos hi, co_rangeMap]
  · rw [if_neg hi, if_neg hi, co_nil]
theorem turnI_len (h w : Nat) (C : List (List Int)) : (turnI h w C).length = h := by simp [turnI]
theorem turnI_row {h w : Nat} {C : List (List Int)} : ∀ r ∈ turnI h w C, r.length = w := fun r hr => by
  obtain ⟨i, _, rfl⟩ := List.mem_map.mp hr
  simp
theorem colI_co (A : List (List Int)) (i j : Nat) : co (colI A j) i = co2 A i j := co_col A i j
theorem colI_len (A : List (List Int)) (j : Nat) : (colI A j).length = A.length := by simp [colI]
theorem wid_row {A : List (List Int)} {r : List Int} (h : r ∈ A) : r.length ≤ (widI A).toNat := by
  have := wid_ge h
  omega
end Ev
namespace Al
open Lean.Grind Ev
structure Cst (m : Int) (R : Type) [CommRing R] where
  f : Int → R
  add : ∀ a b, f (a + b) = f a + f b
  mul : ∀ a b, f (a * b) = f a * f b
  one : f 1 = 1
  md : ∀ a, f (a.fmod m) = f a
namespace Cst
variable {m : Int} {R S : Type} [CommRing R] [CommRing S]
theorem zero (c : Cst m R) : c.f 0 = 0 := by
  have := c.add 0 0
  rw [Int.add_zero] at this
  grind
theorem neg (c : Cst m R) (a : Int) : c.f (-a) = - c.f a := by
  have h := c.add a (-a)
  rw [Int.add_right_neg, c.zero] at h
  grind
theorem sub (c : Cst m R) (a b : Int) : c.f (a - b) = c.f a - c.f b := by
  rw [Int.sub_eq_add_neg, c.add, c.neg]
  grind
theorem cg (c : Cst m R) {a b : Int} (hm : 0 < m) (h : Cg m a b) : c.f a = c.f b := by
  rw [← c.md a, ← c.md b, h.eq hm]
def to (c : Cst m R) (h : Hom R S) : Cst m S := ⟨fun a => h.f (c.f a), fun a b => by rw [c.add, h.add], fun a b => by rw [c.mul, h.mul], by rw [c.one, h.one], fun a => by rw [c.md]⟩
end Cst
section
variable {m : Int} {R : Type} [CommRing R] (c : Cst m R) (x : R)
/-- x (x - 1) .. (x - k + 1) -/
def fal : Nat → R
  | 0 => 1
  | k + 1 => fal k * (x - c.f k)
def pwr : List Int → R
  | [] => 0
  | a :: L => c.f a + x * pwr L
def nwr : Nat → List Int → R
  | _, [] => 0
  | k, a :: L => c.f a + (x - c.f k) * nwr (k + 1) L
theorem pwr_gs : ∀ L : List Int, pwr c x L = gs L.length fun i => c.f (co L i) * x ^ i
  | [] => rfl
  | a :: L => by
    show c.f a + x * pwr c x L = gs (L.length + 1) _
    rw [pwr_gs L, gs_succ, ← gs_mul]
    have e : gs L.length (fun i => x * (c.f (co L i) * x ^ i)) = gs L.length (fun i => c.f (co (a :: L) (i + 1)) * x ^ (i + 1)) := gs_congr fun i _ => by
      rw [co_succ, Semiring.pow_succ]
      grind
    rw [e]
    have e2 : c.f (co (a :: L) 0) * x ^ 0 = c.f a := by
      rw [co_zero, Semiring.pow_zero]
      grind
    rw [e2]
theorem nwr_gs : ∀ (L : List Int) (k : Nat), fal c x k * nwr c x k L = gs L.length fun i => c.f (co L i) * fal c x (k + i)
  | [], k => by
    show fal c x k * 0 = 0
    grind
  | a :: L, k => by
    show fal c x k * (c.f a + (x - c.f k) * nwr c x (k + 1) L) = gs (L.length + 1) _
    rw [gs_succ]
    have ih := nwr_gs L (k + 1)
    have e : gs L.length (fun i => c.f (co (a :: L) (i + 1)) * fal c x (k + (i + 1))) = gs L.length (fun i => c.f (co L i) * fal c x (k + 1 + i)) := gs_congr fun i _ => by
      rw [co_succ, show k + (i + 1) = k + 1 + i by omega]
    rw [e, ← ih]
    show _ = c.f a * fal c x k + fal c x k * (x - c.f k) * nwr c x (k + 1) L
    grind
theorem nwr0 (L : List Int) : nwr c x 0 L = gs L.length fun i => c.f (co L i) * fal c x i := by
  have h := nwr_gs c x L 0
  have e : gs L.length (fun i => c.f (co L i) * fal c x (0 + i)) = gs L.length (fun i => c.f (co L i) * fal c x i) := gs_congr fun i _ => by rw [Nat.zero_add]
  rw [e] at h
  rw [← h]
  show _ = 1 * _
  grind
theorem pwr_hd : ∀ s : List Int, pwr c x s = c.f (s.headD 0) + x * pwr c x s.tail
  | [] => by
    show (0 : R) = c.f 0 + x * 0
    rw [c.zero]
    grind
  | a :: s => rfl
theorem pwr_syn (k : Int) : ∀ L : List Int, pwr c x L = c.f ((synI m k L).headD 0) + (x - c.f k) * pwr c x (synI m k L).tail
  | [] => by
    show (0 : R) = c.f 0 + _ * 0
    rw [c.zero]
    grind
  | a :: L => by
    show c.f a + x * pwr c x L = c.f (((synI m k L).headD 0 * k + a).fmod m) + (x - c.f k) * pwr c x (synI m k L)
    rw [c.md, c.add, c.mul, pwr_hd c x (synI m k L), pwr_syn k L]
    grind
theorem pwr_split : ∀ (n k : Nat) (L : List Int), L.length ≤ n → nwr c x k (splitN m n k L) = pwr c x L
  | 0, k, L, h => by
    rw [List.length_eq_zero_iff.mp (Nat.le_zero.mp h)]
    rfl
  | n + 1, k, L, h => by
    show c.f ((synI m k L).headD 0) + (x - c.f k) * nwr c x (k + 1) (splitN m n (k + 1) (synI m k L).tail) = _
    rw [pwr_split n (k + 1) _ (by rw [List.length_tail, synI_len]; omega), ← pwr_syn]
theorem pwr_unp (k : Int) : ∀ L : List Int, pwr c x (unp m k L) = pwr c x L - c.f k * pwr c x L.tail
  | [] => by
    show (0 : R) = 0 - c.f k * 0
    grind
  | [a] => by
    show c.f a + x * 0 = c.f a + x * 0 - c.f k * 0
    grind
  | a :: b :: r => by
    show c.f ((a - k * b).fmod m) + x * pwr c x (unp m k (b :: r)) = c.f a + x * pwr c x (b :: r) - c.f k * pwr c x (b :: r)
    rw [c.md, c.sub, c.mul, pwr_unp k (b :: r)]
    show c.f a - c.f k * c.f b + x * (pwr c x (b :: r) - c.f k * pwr c x r) = _
    have e : pwr c x (b :: r) = c.f b + x * pwr c x r := rfl
    rw [e]
    grind
theorem pwr_unsplit : ∀ (L : List Int) (k : Nat), pwr c x (unsplitN m k L) = nwr c x k L
  | [], k => rfl
  | a :: r, k => by
    show pwr c x (unp m k (a :: unsplitN m (k + 1) r)) = c.f a + (x - c.f k) * nwr c x (k + 1) r
    rw [pwr_unp, ← pwr_unsplit r (k + 1)]
    show c.f a + x * pwr c x (unsplitN m (k + 1) r) - c.f k * pwr c x (unsplitN m (k + 1) r) = _
    grind
theorem gs_co {L : List Int} {n : Nat} (h : L.length ≤ n) (g : Nat → R) : gs L.length (fun i => c.f (co L i) * g i) = gs n fun i => c.f (co L i) * g i :=
  (gs_more h fun i hi => by rw [co_ge hi, c.zero]; grind).symm
variable (y : R)
def pw2 (h w : Nat) (A : List (List Int)) : R := gs h fun i => gs w fun j => c.f (co2 A i j) * (x ^ i * y ^ j)
def nw2 (h w : Nat) (A : List (List Int)) : R := gs h fun i => gs w fun j => c.f (co2 A i j) * (fal c x i * fal c y j)
/-- row by row, then column by column -/
theorem two_steps {h w : Nat} {A : List (List Int)} {S : List (List Int)} {C : List (List Int)} {px py qx qy : Nat → R}
    (h1 : ∀ i, i < h → gs w (fun j => c.f (co2 S i j) * qy j) = gs w fun j => c.f (co2 A i j) * py j)
    (h2 : ∀ j, j < w → gs h (fun i => c.f (co (ro C j) i) * qx i) = gs h fun i => c.f (co2 S i j) * px i) :
    (gs h fun i => gs w fun j => c.f (co2 (turnI h w C) i j) * (qx i * qy j)) = gs h fun i => gs w fun j => c.f (co2 A i j) * (px i * py j) := by
  have e1 : (gs h fun i => gs w fun j => c.f (co2 (turnI h w C) i j) * (qx i * qy j)) = gs w fun j => (gs h fun i => c.f (co (ro C j) i) * qx i) * qy j := by
    rw [gs_comm]
    refine gs_congr fun j hj => ?_
    rw [← gs_mulr]
    refine gs_congr fun i hi => ?_
    rw [turnI_co, if_pos hi, if_pos hj]
    grind
  have e2 : (gs h fun i => gs w fun j => c.f (co2 A i j) * (px i * py j)) = gs h fun i => px i * gs w fun j => c.f (co2 A i j) * py j := gs_congr fun i hi => by
    rw [← gs_mul]
    exact gs_congr fun j _ => by grind
  have e4 : (gs w fun j => (gs h fun i => c.f (co (ro C j) i) * qx i) * qy j) = gs w fun j => (gs h fun i => c.f (co2 S i j) * px i) * qy j := gs_congr fun j hj => by rw [h2 j hj]
  have e5 : (gs h fun i => px i * gs w fun j => c.f (co2 A i j) * py j) = gs h fun i => px i * gs w fun j => c.f (co2 S i j) * qy j := gs_congr fun i hi => by rw [h1 i hi]
  rw [e1, e2, e4, e5]
  have e3 : (gs w fun j => (gs h fun i => c.f (co2 S i j) * px i) * qy j) = gs w fun j => gs h fun i => px i * (c.f (co2 S i j) * qy j) := gs_congr fun j _ => by
    rw [← gs_mulr]
    exact gs_congr fun i _ => by grind
  rw [e3, gs_comm]
  exact gs_congr fun i _ => gs_mul (px i) (fun j => c.f (co2 S i j) * qy j) w
theorem ro_mapI {A : List (List Int)} (f : List Int → List Int) {i : Nat} (h : i < A.length) : ro (A.map f) i = f (ro A i) := by
  simp [ro, h]
theorem ro_inI {A : List (List Int)} {i : Nat} (h : i < A.length) : ro A i ∈ A := by
  have e : ro A i = A[i] := by simp [ro, h]
  rw [e]
  exact List.getElem_mem h
theorem parts_sum (A : List (List Int)) : nw2 c x y A.length (widI A).toNat (partsI m A) = pw2 c x y A.length (widI A).toNat A := by
  refine two_steps c (S := A.map fun r => splitN m (widI A).toNat 0 (padR (widI A).toNat r)) (fun i hi => ?_) fun j hj => ?_
  · have hr := wid_row (ro_inI hi)
    have e : ∀ j, co2 (A.map fun r => splitN m (widI A).toNat 0 (padR (widI A).toNat r)) i j = co (splitN m (widI A).toNat 0 (padR (widI A).toNat (ro A i))) j := fun j => by
      unfold co2
      rw [ro_mapI _ hi]
    rw [gs_congr fun j _ => by rw [e j]]
    have h1 := pwr_split c y (widI A).toNat 0 (padR (widI A).toNat (ro A i)) (Nat.le_of_eq (padR_len hr))
    rw [nwr0, pwr_gs, splitN_len, padR_len hr] at h1
    rw [h1]
    exact gs_congr fun j _ => by rw [padR_co]
  · have e : ro ((List.range (widI A).toNat).map fun j => splitN m A.length 0 (colI (A.map fun r => splitN m (widI A).toNat 0 (padR (widI A).toNat r)) j)) j = splitN m A.length 0 (colI (A.map fun r => splitN m (widI A).toNat 0 (padR (widI A).toNat r)) j) := by
      rw [ro_rangeMap, if_pos hj]
    rw [e]
    have hl : (colI (A.map fun r => splitN m (widI A).toNat 0 (padR (widI A).toNat r)) j).length = A.length := by rw [colI_len, List.length_map]
    have h1 := pwr_split c x A.length 0 (colI (A.map fun r => splitN m (widI A).toNat 0 (padR (widI A).toNat r)) j) (Nat.le_of_eq hl)
    rw [nwr0, pwr_gs, splitN_len, hl] at h1
    rw [h1]
    exact gs_congr fun i _ => by rw [colI_co]
theorem unparts_sum (T : List (List Int)) : pw2 c x y T.length (widI T).toNat (unpartsI m T) = nw2 c x y T.length (widI T).toNat T := by
  refine two_steps c (S := T.map fun r => unsplitN m 0 (padR (widI T).toNat r)) (fun i hi => ?_) fun j hj => ?_
  · have hr := wid_row (ro_inI hi)
    have e : ∀ j, co2 (T.map fun r => unsplitN m 0 (padR (widI T).toNat r)) i j = co (unsplitN m 0 (padR (widI T).toNat (ro T i))) j := fun j => by
      unfold co2
      rw [ro_mapI _ hi]
    rw [gs_congr fun j _ => by rw [e j]]
    have h1 := pwr_unsplit c y (padR (widI T).toNat (ro T i)) 0
    rw [nwr0, pwr_gs, unsplitN_len, padR_len hr] at h1
    rw [h1]
    exact gs_congr fun j _ => by rw [padR_co]
  · have e : ro ((List.range (widI T).toNat).map fun j => unsplitN m 0 (colI (T.map fun r => unsplitN m 0 (padR (widI T).toNat r)) j)) j = unsplitN m 0 (colI (T.map fun r => unsplitN m 0 (padR (widI T).toNat r)) j) := by
      rw [ro_rangeMap, if_pos hj]
    rw [e]
    have hl : (colI (T.map fun r => unsplitN m 0 (padR (widI T).toNat r)) j).length = T.length := by rw [colI_len, List.length_map]
    have h1 := pwr_unsplit c x (colI (T.map fun r => unsplitN m 0 (padR (widI T).toNat r)) j) 0
    rw [nwr0, pwr_gs, unsplitN_len, hl] at h1
    rw [h1]
    exact gs_congr fun i _ => by rw [colI_co]
end
end Al
end
section
namespace Al
open Lean.Grind Ev Poly
section
variable {R : Type} [CommRing R]
def X1 : Poly R := mono 1 1
theorem mul_X1 (p : Poly R) (i : Nat) : (p * X1).c i = if i = 0 then 0 else p.c (i - 1) := by
  have e : (p * X1 : Poly R) = X1 * p := CommSemiring.mul_comm _ _
  rw [e, mul_c]
  unfold cvR
  by_cases h : i = 0
  · rw [if_pos h]
    refine gs_zero fun j hj => ?_
    show (if j = 1 then (1 : R) else 0) * _ = 0
    rw [if_neg (by omega)]
    grind
  · rw [if_neg h, gs_one (k := 1) (by omega) fun j _ hj => ?_]
    · show (if 1 = 1 then (1 : R) else 0) * _ = _
      rw [if_pos rfl]
      grind
    · show (if j = 1 then (1 : R) else 0) * _ = 0
      rw [if_neg hj]
      grind
theorem X1_pow : ∀ k : Nat, (X1 : Poly R) ^ k = mono k 1
  | 0 => by rw [Semiring.pow_zero]; rfl
  | k + 1 => by
    rw [Semiring.pow_succ, X1_pow k]
    show mono k 1 * mono 1 1 = _
    rw [mono_mul]
    have e : (1 : R) * 1 = 1 := by grind
    rw [e]
theorem const_mono' (a b : R) (k : Nat) : const a * mono k b = mono k (a * b) := ext fun i => by
  rw [const_mul_c, mono_c, mono_c]
  by_cases h : i = k
  · rw [if_pos h, if_pos h]
  · rw [if_neg h, if_neg h]; grind
theorem gs_mono (a : Nat → R) (n i : Nat) : (gs n fun k => mono k (a k)).c i = if i < n then a i else 0 := by
  rw [gs_c]
  by_cases h : i < n
  · rw [if_pos h]
    have e : (gs n fun k => (mono k (a k)).c i) = (mono i (a i)).c i := gs_one (f := fun k => (mono k (a k)).c i) (k := i) h fun j _ hj => if_neg (Ne.symm hj)
    rw [e]
    exact if_pos rfl
  · rw [if_neg h]
    exact gs_zero fun j hj => if_neg (by omega)
/-- the falling ones go just so far, with a one -/
theorem fal_top {m : Int} (c : Cst m (Poly R)) (d : Int → R) (hc : ∀ a, c.f a = const (d a)) : ∀ k : Nat, (fal c X1 k).c k = 1 ∧ ∀ i, k < i → (fal c X1 k).c i = 0
  | 0 => ⟨rfl, fun i hi => if_neg (by omega)⟩
  | k + 1 => by
    obtain ⟨h1, h2⟩ := fal_top c d hc k
    have e : ∀ i, (fal c X1 (k + 1)).c i = (if i = 0 then 0 else (fal c X1 k).c (i - 1)) - d k * (fal c X1 k).c i := fun i => by
      show ((fal c X1 k) * (X1 - c.f k)).c i = _
      have e2 : (fal c X1 k) * (X1 - c.f k) = fal c X1 k * X1 - c.f k * fal c X1 k := by grind
      rw [e2, sub_c, mul_X1, hc, const_mul_c]
    refine ⟨?_, fun i hi => ?_⟩
    · rw [e, if_neg (by omega), h2 (k + 1) (by omega)]
      show (fal c X1 k).c k - _ = _
      rw [h1]
      grind
    · rw [e, if_neg (by omega), h2 i (by omega), h2 (i - 1) (by omega)]
      grind
theorem fal_inj {m : Int} (c : Cst m (Poly R)) (d : Int → R) (hc : ∀ a, c.f a = const (d a)) (a : Nat → R) : ∀ n : Nat, (gs n fun k => const (a k) * fal c X1 k) = 0 → ∀ i, i < n → a i = 0
  | 0, _, i, hi => absurd hi (by omega)
  | n + 1, h, i, hi => by
    have hn : a n = 0 := by
      have h2 : (gs (n + 1) fun k => const (a k) * fal c X1 k).c n = 0 := by rw [h]; exact zero_c n
      rw [gs_c, gs_one (k := n) (by omega) fun j hj hne => by rw [const_mul_c, (fal_top c d hc j).2 n (by omega)]; grind, const_mul_c, (fal_top c d hc n).1] at h2
      grind
    by_cases e : i = n
    · rw [e, hn]
    · refine fal_inj c d hc a n ?_ i (by omega)
      have h2 : (gs n fun k => const (a k) * fal c X1 k) + const (a n) * fal c X1 n = 0 := h
      rw [hn, const_zero] at h2
      grind
end
section
variable {m : Int}
def cM (m : Int) : Cst m (Zm m) := ⟨mk m, fun _ _ => Zm.mk_add .., fun _ _ => Zm.mk_mul .., rfl, fun a => Zm.mk_fmod a⟩
def hC {R : Type} [CommRing R] : Hom R (Poly R) := ⟨const, const_add, const_mul, rfl⟩
def cP (m : Int) : Cst m (Poly (Zm m)) := (cM m).to hC
def cC (m : Int) : Cst m (Poly (Poly (Zm m))) := (cP m).to hC
theorem cP_f (a : Int) : (cP m).f a = const (mk m a) := rfl
theorem cC_f (a : Int) : (cC m).f a = const (const (mk m a)) := rfl
theorem cC_cc (a : Int) : (cC m).f a = cc m a := rfl
def X2 : Poly (Poly (Zm m)) := X1
def Y2 : Poly (Poly (Zm m)) := const X1
theorem hom_pow {R S : Type} [CommRing R] [CommRing S] (h : Hom R S) (a : R) : ∀ k : Nat, h.f (a ^ k) = h.f a ^ k
  | 0 => by rw [Semiring.pow_zero, Semiring.pow_zero, h.one]
  | k + 1 => by rw [Semiring.pow_succ, Semiring.pow_succ, h.mul, hom_pow h a k]
theorem hom_neg {R S : Type} [CommRing R] [CommRing S] (h : Hom R S) (a : R) : h.f (-a) = - h.f a := by
  have q := h.add a (-a)
  have e : a + -a = 0 := by grind
  rw [e, h.zero] at q
  grind
theorem hom_sub {R S : Type} [CommRing R] [CommRing S] (h : Hom R S) (a b : R) : h.f (a - b) = h.f a - h.f b := by
  have e : a - b = a + -b := by grind
  rw [e, h.add, hom_neg]
  grind
theorem hom_fal {R S : Type} [CommRing R] [CommRing S] (c : Cst m R) (h : Hom R S) (x : R) : ∀ k : Nat, h.f (fal c x k) = fal (c.to h) (h.f x) k
  | 0 => h.one
  | k + 1 => by
    show h.f (fal c x k * (x - c.f k)) = fal (c.to h) (h.f x) k * (h.f x - h.f (c.f k))
    rw [h.mul, hom_fal c h x k, hom_sub]
theorem pow_XY (i j : Nat) : (X2 : Poly (Poly (Zm m))) ^ i * Y2 ^ j = mono i (mono j 1) := by
  have e : (Y2 : Poly (Poly (Zm m))) ^ j = const (X1 ^ j) := (hom_pow hC X1 j).symm
  rw [e, X1_pow]
  show X1 ^ i * const (mono j 1) = _
  rw [X1_pow, CommSemiring.mul_comm, const_mono']
  congr 1
  grind
theorem pw2_ofR {A : List (List Int)} {h w : Nat} (hh : A.length ≤ h) (hw : ∀ r ∈ A, r.length ≤ w) : pw2 (cC m) X2 Y2 h w A = ofR m A := by
  have e : pw2 (cC m) X2 Y2 h w A = gs h fun i => mono i (gs w fun j => mono j (mk m (co2 A i j))) := by
    unfold pw2
    refine gs_congr fun i hi => ?_
    have e2 : ∀ n, (gs n fun j => (cC m).f (co2 A i j) * ((X2 : Poly (Poly (Zm m))) ^ i * Y2 ^ j)) = mono i (gs n fun j => mono j (mk m (co2 A i j))) := fun n => by
      induction n with
      | zero => exact (mono_zero i).symm
      | succ n ih =>
        show (gs n _) + (cC m).f (co2 A i n) * ((X2 : Poly (Poly (Zm m))) ^ i * Y2 ^ n) = mono i ((gs n fun j => mono j (mk m (co2 A i j))) + mono n (mk m (co2 A i n)))
        rw [ih, mono_add, pow_XY, cC_f, const_mono', const_mono']
        congr 2
        congr 1
        grind
    exact e2 w
  rw [e]
  refine Poly.ext fun i => Poly.ext fun j => ?_
  rw [gs_mono]
  show _ = mk m (co2 A i j)
  by_cases hi : i < h
  · rw [if_pos hi, gs_mono]
    by_cases hj : j < w
    · rw [if_pos hj]
    · rw [if_neg hj]
      unfold co2
      rw [co_ge]
      · rfl
      · by_cases e : ro A i = []
        · rw [e]; exact Nat.zero_le _
        · have := hw _ (ro_mem e)
          omega
  · rw [if_neg hi]
    unfold co2
    rw [ro_ge (by omega), co_nil]
    exact zero_c j
/-- the sum of the parts -/
def F2 (m : Int) (T : List (List Int)) : Poly (Poly (Zm m)) := nw2 (cC m) X2 Y2 T.length (widI T).toNat T
theorem F2_more {T : List (List Int)} {h w : Nat} (hh : T.length ≤ h) (hw : ∀ r ∈ T, r.length ≤ w) : nw2 (cC m) X2 Y2 h w T = F2 m T := by
  have z : ∀ i j, (w ≤ j ∨ (widI T).toNat ≤ j ∨ T.length ≤ i) → co2 T i j = 0 := fun i j q => by
    unfold co2
    by_cases e : ro T i = []
    · rw [e, co_nil]
    · have h1 := hw _ (ro_mem e)
      have h2 := wid_row (ro_mem e)
      have h3 : ¬ T.length ≤ i := fun y => e (ro_ge y)
      rw [co_ge]
      omega
  unfold F2 nw2
  rw [gs_more hh fun i hi => gs_zero fun j _ => by rw [z i j (.inr (.inr hi)), (cC m).zero]; grind]
  refine gs_congr fun i _ => ?_
  have k1 : gs (max w (widI T).toNat) (fun j => (cC m).f (co2 T i j) * (fal (cC m) X2 i * fal (cC m) Y2 j)) = gs w fun j => (cC m).f (co2 T i j) * (fal (cC m) X2 i * fal (cC m) Y2 j) := gs_more (by omega) fun j hj => by rw [z i j (.inl hj), (cC m).zero]; grind
  have k2 : gs (max w (widI T).toNat) (fun j => (cC m).f (co2 T i j) * (fal (cC m) X2 i * fal (cC m) Y2 j)) = gs (widI T).toNat fun j => (cC m).f (co2 T i j) * (fal (cC m) X2 i * fal (cC m) Y2 j) := gs_more (by omega) fun j hj => by rw [z i j (.inr (.inl hj)), (cC m).zero]; grind
  rw [← k1, k2]
theorem F2_parts (A : List (List Int)) : F2 m (partsI m A) = ofR m A := by
  rw [← pw2_ofR (Nat.le_refl _) fun r hr => wid_row hr, ← parts_sum (cC m) X2 Y2 A]
  exact (F2_more (Nat.le_of_eq (turnI_len ..)) fun r hr => Nat.le_of_eq (turnI_row r hr)).symm
theorem F2_unparts (T : List (List Int)) : ofR m (unpartsI m T) = F2 m T := by
  have h := unparts_sum (cC m) X2 Y2 T
  have hp : pw2 (cC m) X2 Y2 T.length (widI T).toNat (unpartsI m T) = ofR m (unpartsI m T) := pw2_ofR (Nat.le_of_eq (turnI_len ..)) fun r hr => Nat.le_of_eq (turnI_row r hr)
  rw [hp] at h
  exact h
/-- as a sum of rows -/
theorem F2_rows {T : List (List Int)} {h w : Nat} (hh : T.length ≤ h) (hw : ∀ r ∈ T, r.length ≤ w) : F2 m T = gs h fun i => const (gs w fun j => const (mk m (co2 T i j)) * fal (cP m) X1 j) * fal (cC m) X2 i := by
  rw [← F2_more hh hw]
  unfold nw2
  refine gs_congr fun i _ => ?_
  have e : const (gs w fun j => const (mk m (co2 T i j)) * fal (cP m) X1 j) = gs w fun j => (cC m).f (co2 T i j) * fal (cC m) Y2 j := by
    rw [show const (gs w fun j => const (mk m (co2 T i j)) * fal (cP m) X1 j) = hC.f (gs w fun j => const (mk m (co2 T i j)) * fal (cP m) X1 j) from rfl, hC.sum]
    refine gs_congr fun j _ => ?_
    rw [hC.mul, hom_fal]
    rfl
  rw [e, ← gs_mulr]
  exact gs_congr fun j _ => by grind
theorem wid_both {S T : List (List Int)} : (∀ r ∈ S, r.length ≤ max (widI S).toNat (widI T).toNat) ∧ ∀ r ∈ T, r.length ≤ max (widI S).toNat (widI T).toNat :=
  ⟨fun r hr => by have := wid_row hr; omega, fun r hr => by have := wid_row hr; omega⟩
theorem F2_lin {S T U : List (List Int)} {a : Int} (hm : 0 < m) (h : ∀ i j, Cg m (co2 U i j) (co2 S i j + a * co2 T i j)) : F2 m U = F2 m S + cc m a * F2 m T := by
  obtain ⟨H, hH⟩ : ∃ H, H = max U.length (max S.length T.length) := ⟨_, rfl⟩
  obtain ⟨W, hW⟩ : ∃ W, W = max (widI U).toNat (max (widI S).toNat (widI T).toNat) := ⟨_, rfl⟩
  rw [← F2_more (T := U) (h := H) (w := W) (by omega) fun r hr => by have := wid_row hr; omega, ← F2_more (T := S) (h := H) (w := W) (by omega) fun r hr => by have := wid_row hr; omega, ← F2_more (T := T) (h := H) (w := W) (by omega) fun r hr => by have := wid_row hr; omega]
  unfold nw2
  rw [← gs_mul, ← gs_add]
  refine gs_congr fun i _ => ?_
  rw [← gs_mul, ← gs_add]
  refine gs_congr fun j _ => ?_
  rw [(cC m).cg hm (h i j), (cC m).add, (cC m).mul, cC_cc a]
  grind
theorem F2_eq (hm : 0 < m) {S T : List (List Int)} (h : ∀ i j, Cg m (co2 S i j) (co2 T i j)) : F2 m S = F2 m T := by
  have q := F2_lin (U := S) (S := T) (T := []) (a := 0) hm fun i j => (h i j).trans (Cg.of_eq (by omega))
  rw [q]
  have e : cc m 0 = 0 := (cC m).zero
  rw [e]
  grind
theorem F2_inj {S T : List (List Int)} (h : F2 m S = F2 m T) (i j : Nat) : Cg m (co2 S i j) (co2 T i j) := by
  obtain ⟨H, hH⟩ : ∃ H, H = max (i + 1) (max S.length T.length) := ⟨_, rfl⟩
  obtain ⟨W, hW⟩ : ∃ W, W = max (j + 1) (max (widI S).toNat (widI T).toNat) := ⟨_, rfl⟩
  rw [F2_rows (T := S) (h := H) (w := W) (by omega) fun r hr => by have := wid_row hr; omega, F2_rows (T := T) (h := H) (w := W) (by omega) fun r hr => by have := wid_row hr; omega] at h
  have k1 : (gs H fun i => const ((gs W fun j => const (mk m (co2 S i j)) * fal (cP m) X1 j) - gs W fun j => const (mk m (co2 T i j)) * fal (cP m) X1 j) * fal (cC m) X1 i) = 0 := by
    have e : (gs H fun i => const ((gs W fun j => const (mk m (co2 S i j)) * fal (cP m) X1 j) - gs W fun j => const (mk m (co2 T i j)) * fal (cP m) X1 j) * fal (cC m) X1 i)
        = (gs H fun i => const (gs W fun j => const (mk m (co2 S i j)) * fal (cP m) X1 j) * fal (cC m) X2 i) + gs H fun i => (-1) * (const (gs W fun j => const (mk m (co2 T i j)) * fal (cP m) X1 j) * fal (cC m) X2 i) := by
      rw [← gs_add]
      refine gs_congr fun i _ => ?_
      rw [show const ((gs W fun j => const (mk m (co2 S i j)) * fal (cP m) X1 j) - gs W fun j => const (mk m (co2 T i j)) * fal (cP m) X1 j) = const (gs W fun j => const (mk m (co2 S i j)) * fal (cP m) X1 j) - const (gs W fun j => const (mk m (co2 T i j)) * fal (cP m) X1 j) from hom_sub hC _ _]
      show _ * fal (cC m) X2 i = _
      grind
    rw [e, gs_mul, h]
    grind
  have k2 := fal_inj (cC m) (fun a => (cP m).f a) (fun a => rfl) _ H k1 i (by omega)
  have k3 : (gs W fun j => const (mk m (co2 S i j) - mk m (co2 T i j)) * fal (cP m) X1 j) = 0 := by
    have e : (gs W fun j => const (mk m (co2 S i j) - mk m (co2 T i j)) * fal (cP m) X1 j) = (gs W fun j => const (mk m (co2 S i j)) * fal (cP m) X1 j) + gs W fun j => (-1) * (const (mk m (co2 T i j)) * fal (cP m) X1 j) := by
      rw [← gs_add]
      refine gs_congr fun j _ => ?_
      rw [show const (mk m (co2 S i j) - mk m (co2 T i j)) = const (mk m (co2 S i j)) - const (mk m (co2 T i j)) from hom_sub hC _ _]
      grind
    rw [e, gs_mul]
    grind
  have k4 := fal_inj (cP m) (mk m) (fun a => rfl) _ W k3 j (by omega)
  have k5 : mk m (co2 S i j) = mk m (co2 T i j) := by grind
  exact mk_eq.mp k5
end
end Al
end
section
namespace Al
open Lean.Grind Ev Poly
theorem fal_c_succ {m : Int} {R : Type} [CommRing R] (c : Cst m (Poly R)) (d : Int → R) (hc : ∀ a, c.f a = const (d a)) (k i : Nat) : (fal c X1 (k + 1)).c i = (if i = 0 then 0 else (fal c X1 k).c (i - 1)) - d k * (fal c X1 k).c i := by
  show ((fal c X1 k) * (X1 - c.f k)).c i = _
  have e2 : (fal c X1 k) * (X1 - c.f k) = fal c X1 k * X1 - c.f k * fal c X1 k := by grind
  rw [e2, sub_c, mul_X1, hc, const_mul_c]
section
variable {m : Int}
/-- the falling ones of x have plain coefficients -/
theorem falX_c : ∀ k i : Nat, (fal (cC m) X2 k).c i = const ((fal (cP m) X1 k).c i)
  | 0, i => by
    show (if i = 0 then (1 : Poly (Zm m)) else 0) = const (if i = 0 then 1 else 0)
    by_cases h : i = 0
    · rw [if_pos h, if_pos h]; rfl
    · rw [if_neg h, if_neg h]; rfl
  | k + 1, i => by
    rw [show (fal (cC m) X2 (k + 1)).c i = _ from fal_c_succ (cC m) (fun a => (cP m).f a) (fun a => rfl) k i, fal_c_succ (cP m) (mk m) (fun a => rfl) k i]
    have ih : ∀ i, (fal (cC m) X2 k).c i = const ((fal (cP m) X1 k).c i) := falX_c k
    have e : (const ((if i = 0 then 0 else (fal (cP m) X1 k).c (i - 1)) - mk m k * (fal (cP m) X1 k).c i) : Poly (Zm m)) = const (if i = 0 then 0 else (fal (cP m) X1 k).c (i - 1)) - const (mk m k) * const ((fal (cP m) X1 k).c i) := by
      rw [show const ((if i = 0 then 0 else (fal (cP m) X1 k).c (i - 1)) - mk m k * (fal (cP m) X1 k).c i) = const (if i = 0 then 0 else (fal (cP m) X1 k).c (i - 1)) - const (mk m k * (fal (cP m) X1 k).c i) from hom_sub hC _ _, const_mul]
    rw [e]
    have e1 : (if i = 0 then (0 : Poly (Zm m)) else (fal (cC m) X1 k).c (i - 1)) = const (if i = 0 then 0 else (fal (cP m) X1 k).c (i - 1)) := by
      by_cases h : i = 0
      · rw [if_pos h, if_pos h]; rfl
      · rw [if_neg h, if_neg h]; exact ih (i - 1)
    rw [e1]
    have e2 : (fal (cC m) X1 k).c i = const ((fal (cP m) X1 k).c i) := ih i
    rw [e2]
    rfl
theorem red_len (hm : 0 < m) {L : List Int} (hr : Red m L) {N : Nat} (h : ∀ i, N ≤ i → (ofL m L).c i = 0) : L.length ≤ N := by
  by_cases e : L.length ≤ N
  · exact e
  have hne : L ≠ [] := fun z => e (by rw [z]; simp)
  have hl := hr.last hne
  have hp : 0 < L.length := List.length_pos_iff.mpr hne
  have hlt : L.length - 1 < L.length := by omega
  have h1 := h (L.length - 1) (by omega)
  have h2 : mk m (co L (L.length - 1)) = mk m 0 := h1
  have h3 := (mk_eq.mp h2).eq hm
  rw [hr.co] at h3
  rw [List.getLast_eq_getElem] at hl
  refine absurd ?_ hl
  have h4 : co L (L.length - 1) = L[L.length - 1] := by simp [co, hlt]
  rw [← h4, h3]
  simp
/-- the k-th side -/
structure Side (m : Int) (k : Nat) (L : List Int) : Prop where
  red : Red m L
  is : ofL m L = fal (cP m) X1 k
theorem side_len (hm : 0 < m) {k : Nat} {L : List Int} (h : Side m k L) : L.length ≤ k + 1 :=
  red_len hm h.red fun i hi => by rw [h.is]; exact (fal_top (cP m) (mk m) (fun a => rfl) k).2 i (by omega)
theorem ofL_lin (a : Int) : ofL m [a, 1] = const (mk m a) + X1 := Poly.ext fun i => by
  rw [add_c, ofL_c, const_c]
  show _ = _ + (if i = 1 then (1 : Zm m) else 0)
  match i with
  | 0 => show mk m a = mk m a + 0; grind
  | 1 => show mk m 1 = 0 + 1; show (1 : Zm m) = 0 + 1; grind
  | i + 2 =>
    show mk m (co [] i) = 0 + 0
    rw [co_nil]
    show (0 : Zm m) = 0 + 0
    grind
theorem side_zero (hm : 0 < m) : Side m 0 (redI m [1]) := ⟨redI_red hm _, by rw [ofL_redI, ofL_one]; rfl⟩
theorem side_next (hm : 0 < m) {k : Nat} {L : List Int} (h : Side m k L) : Side m (k + 1) (redI m (conv m L (redI m [-(k : Int), 1]))) := ⟨redI_red hm _, by
  rw [ofL_redI, ofL_conv, ofL_redI, ofL_lin, h.is]
  show _ = fal (cP m) X1 k * (X1 - const (mk m k))
  have e : (const (mk m (-(k : Int))) : Poly (Zm m)) = - const (mk m k) := by
    rw [← const_neg]
    exact congrArg const ((cM m).neg k)
  rw [e]
  grind⟩
/-- a row's sum of sides, the first j of them -/
def rowP (m : Int) (r : List Int) (j : Nat) : Poly (Zm m) := gs j fun k => const (mk m (co r k)) * fal (cP m) X1 k
theorem rowP_deg (r : List Int) (j i : Nat) (h : j ≤ i) : (rowP m r j).c i = 0 := by
  unfold rowP
  rw [gs_c]
  refine gs_zero fun k hk => ?_
  rw [const_mul_c, (fal_top (cP m) (mk m) (fun a => rfl) k).2 i (by omega)]
  grind
theorem rowP_next {r : List Int} {j : Nat} {p side : List Int} (hm : 0 < m) (hp : ofL m p = rowP m r j) (hs : Side m j side) : ofL m (redI m (K.addI p (redI m (conv m side (redI m [co r j]))))) = rowP m r (j + 1) := by
  rw [ofL_redI, ofL_addI, ofL_redI, ofL_conv, ofL_redI, ofL_one, hp, hs.is]
  show _ = rowP m r j + const (mk m (co r j)) * fal (cP m) X1 j
  grind
theorem rowP_skip {r : List Int} {j : Nat} (h : (co r j).fmod m = 0) : rowP m r (j + 1) = rowP m r j := by
  show rowP m r j + const (mk m (co r j)) * fal (cP m) X1 j = _
  have e : mk m (co r j) = 0 := by
    rw [← Zm.mk_fmod, h]
    rfl
  rw [e, const_zero]
  grind
/-- the place e, the first i rows put to it -/
def cellP (m : Int) (T : List (List Int)) (w : Nat) (i e : Nat) : Poly (Zm m) := gs i fun k => rowP m (ro T k) w * const ((fal (cP m) X1 k).c e)
theorem cellP_next {T : List (List Int)} {w i e : Nat} {f p side : List Int} (hf : ofL m f = cellP m T w i e) (hp : ofL m p = rowP m (ro T i) w) (hs : Side m i side) : ofL m (redI m (K.addI f (redI m (conv m p (redI m [co side e]))))) = cellP m T w (i + 1) e := by
  rw [ofL_redI, ofL_addI, ofL_redI, ofL_conv, ofL_redI, ofL_one, hf, hp]
  show _ = cellP m T w i e + rowP m (ro T i) w * const ((fal (cP m) X1 i).c e)
  rw [← hs.is]
  rfl
theorem cellP_skip {T : List (List Int)} {w i e : Nat} (h : (fal (cP m) X1 i).c e = 0) : cellP m T w (i + 1) e = cellP m T w i e := by
  show cellP m T w i e + rowP m (ro T i) w * const ((fal (cP m) X1 i).c e) = _
  rw [h, const_zero]
  grind
theorem cellP_void {T : List (List Int)} {w i e : Nat} (h : rowP m (ro T i) w = 0) : cellP m T w (i + 1) e = cellP m T w i e := by
  show cellP m T w i e + rowP m (ro T i) w * const ((fal (cP m) X1 i).c e) = _
  rw [h]
  grind
theorem cellP_deg (T : List (List Int)) (w i e k : Nat) (h : w ≤ k) : (cellP m T w i e).c k = 0 := by
  unfold cellP
  rw [gs_c]
  refine gs_zero fun l hl => ?_
  have e2 : rowP m (ro T l) w * const ((fal (cP m) X1 l).c e) = const ((fal (cP m) X1 l).c e) * rowP m (ro T l) w := CommSemiring.mul_comm _ _
  rw [e2, const_mul_c, rowP_deg _ _ _ h]
  grind
theorem cells_F2 {T found : List (List Int)} {w : Nat} (hw : ∀ r ∈ T, r.length ≤ w) (hl : found.length = T.length) (h : ∀ e, e < T.length → ofL m (ro found e) = cellP m T w T.length e) : ofR m found = F2 m T := by
  rw [F2_rows (Nat.le_refl _) hw]
  refine Poly.ext fun e => ?_
  rw [gs_c]
  have e1 : ∀ i, (const (gs w fun j => const (mk m (co2 T i j)) * fal (cP m) X1 j) * fal (cC m) X2 i).c e = rowP m (ro T i) w * const ((fal (cP m) X1 i).c e) := fun i => by
    rw [const_mul_c, falX_c]
    rfl
  rw [gs_congr fun i _ => e1 i]
  show ofL m (ro found e) = cellP m T w T.length e
  by_cases he : e < T.length
  · exact h e he
  · rw [ro_ge (by omega), ofL_nil]
    refine (gs_zero fun i hi => ?_).symm
    rw [(fal_top (cP m) (mk m) (fun a => rfl) i).2 e (by omega), const_zero]
    grind
end
end Al
end
section
namespace Ev
open PySem
section
variable {sg : Sig} {call : Call} {pins : List Nat} {e : Env} {EX : Exn → Env → Prop}
def whQ {S : Type} (E : S → Env) (I : Nat → S → Prop) (k : Nat) (Q : Fl → Env → Prop) : Fl → Env → Prop
  | .nx, e' => ∃ j s', j < k ∧ e' = E s' ∧ I j s'
  | .ct, e' => ∃ j s', j < k ∧ e' = E s' ∧ I j s'
  | .bk, e' => Q .nx e'
  | .rt s, e' => Q (.rt s) e'
@[simp] theorem whQ_nx {S : Type} {E : S → Env} {I : Nat → S → Prop} {k : Nat} {Q : Fl → Env → Prop} {e' : Env} : whQ E I k Q .nx e' ↔ ∃ j s', j < k ∧ e' = E s' ∧ I j s' := Iff.rfl
/-- while: a measure k goes down -/
theorem W_whlS {S : Type} {fuel k : Nat} {c body : C} (E : S → Env) (I : Nat → S → Prop) (s0 : S) {Q : Fl → Env → Prop} (h0 : I k s0) (hk : k < fuel)
    (hs : ∀ k s, I k s → WPX NE ((do let x ← (den sg call pins c).P; boolOf x) (E s)) (fun b e1 => if b = true then RSX NE sg call pins body (whQ E I k Q) e1 else Q .nx e1)) : WPX NE ((den sg call pins (.whl fuel c body)).S (E s0)) Q := by
  show WPX NE (whlLoop (do let x ← (den sg call pins c).P; boolOf x) (den sg call pins body).S fuel (E s0)) Q
  refine WPX_iff.mpr (w_whl (fun k e => ∃ s, e = E s ∧ I k s) ⟨s0, rfl, h0⟩ hk ?_)
  rintro k e ⟨s, rfl, h⟩
  refine w_mono (WPX_iff.mp (hs k s h)) fun b e1 h1 => ?_
  cases b with
  | false =>
    simp only [Bool.false_eq_true, if_false] at h1 ⊢
    exact h1
  | true =>
    simp only [if_true] at h1 ⊢
    refine w_mono (WPX_iff.mp (RS_iff.mp h1)) fun fl e2 h2 => ?_
    cases fl with
    | nx =>
      obtain ⟨j, s', hj, e3, h3⟩ := h2
      exact ⟨j, hj, s', e3, h3⟩
    | ct =>
      obtain ⟨j, s', hj, e3, h3⟩ := h2
      exact ⟨j, hj, s', e3, h3⟩
    | bk => exact h2
    | rt s => exact h2
@[simp] theorem W_shR {i : Nat} {d : D} {Q : Sl → Env → Prop} (h : e[i]? = some (some (.imm d))) : WPX EX (share pins (.ref i) e) Q ↔ Q (.imm d) e := by
  show WPX EX ((getS i >>= fun s => _) e) Q ↔ _
  rw [W_bind, W_get]
  constructor
  · rintro ⟨s, h2, q⟩
    rw [h] at h2
    cases h2
    exact W_pure.mp q
  · exact fun q => ⟨_, h, W_pure.mpr q⟩
theorem drop_step {T : Type} {l : List T} {i : Nat} {t : T} {rest : List T} (h : t :: rest = l.drop i) : ∃ hi : i < l.length, t = l[i] ∧ rest = l.drop (i + 1) := by
  by_cases hi : i < l.length
  · refine ⟨hi, ?_⟩
    rw [List.drop_eq_getElem_cons hi] at h
    cases h
    exact ⟨rfl, rfl⟩
  · rw [List.drop_eq_nil_of_le (Nat.le_of_not_lt hi)] at h
    cases h
theorem drop_end {T : Type} {l : List T} {i : Nat} (h : [] = l.drop i) : l.length ≤ i := by
  by_cases hi : i < l.length
  · rw [List.drop_eq_getElem_cons hi] at h
    cases h
  · exact Nat.le_of_not_lt hi
/-- a walk over a list, by the index -/
theorem W_forL {S T : Type} {tg it body : C} (g : T → D) (l : List T) (E : S → Env) (I : Nat → S → Prop) (s0 : S) {Q : Fl → Env → Prop} (hi : WPX EX ((den sg call pins it).I e) (fun ds e1 => ds = l.map g ∧ e1 = E s0)) (h0 : I 0 s0)
    (hs : ∀ i s (h : i < l.length), I i s → WPX NE ((den sg call pins tg).G (g l[i]) (E s)) (fun _ e1 => RSX EX sg call pins body (stepQ E (I (i + 1)) Q) e1)) (hq : ∀ s, I l.length s → Q .nx (E s)) : WPX EX ((den sg call pins (.forS tg it body)).S e) Q := by
  refine W_forS g E (fun rest s => ∃ i, rest = l.drop i ∧ i ≤ l.length ∧ I i s) (l := l) s0 hi ⟨0, rfl, Nat.zero_le _, h0⟩ ?_ ?_
  · rintro t rest s ⟨i, hr, hil, h⟩
    obtain ⟨hi, rfl, rfl⟩ := drop_step hr
    refine W_mono (hs i s hi h) fun _ e1 h1 => RS_mono h1 fun fl e2 h2 => ?_
    cases fl with
    | nx =>
      obtain ⟨s', e3, h3⟩ := h2
      exact ⟨s', e3, i + 1, rfl, hi, h3⟩
    | ct =>
      obtain ⟨s', e3, h3⟩ := h2
      exact ⟨s', e3, i + 1, rfl, hi, h3⟩
    | bk => exact h2
    | rt s => exact h2
  · rintro s ⟨i, hr, hil, h⟩
    have := drop_end hr
    obtain rfl : i = l.length := by omega
    exact hq s h
/-- a walk over lo, lo + 1, .. -/
theorem W_forR {S : Type} {tg it body : C} (lo : Int) (N : Nat) (E : S → Env) (I : Nat → S → Prop) (s0 : S) {Q : Fl → Env → Prop} (hi : WPX EX ((den sg call pins it).I e) (fun ds e1 => ds = rangeD lo N ∧ e1 = E s0)) (h0 : I 0 s0)
    (hs : ∀ i s, i < N → I i s → WPX NE ((den sg call pins tg).G (.int (lo + (i : Int))) (E s)) (fun _ e1 => RSX EX sg call pins body (stepQ E (I (i + 1)) Q) e1)) (hq : ∀ s, I N s → Q .nx (E s)) : WPX EX ((den sg call pins (.forS tg it body)).S e) Q := by
  refine W_forL (fun (k : Nat) => .int (lo + (k : Int))) (List.range N) E I s0 hi h0 (fun i s h hI => ?_) fun s h => hq s (by simpa using h)
  have hN : i < N := by simpa using h
  simpa using hs i s hN hI
/-- .. downwards -/
theorem W_forDn {S : Type} {tg it body : C} (lo : Int) (N : Nat) (E : S → Env) (I : Nat → S → Prop) (s0 : S) {Q : Fl → Env → Prop} (hi : WPX EX ((den sg call pins it).I e) (fun ds e1 => ds = downD lo N ∧ e1 = E s0)) (h0 : I 0 s0)
    (hs : ∀ i s, i < N → I i s → WPX NE ((den sg call pins tg).G (.int (lo - (i : Int))) (E s)) (fun _ e1 => RSX EX sg call pins body (stepQ E (I (i + 1)) Q) e1)) (hq : ∀ s, I N s → Q .nx (E s)) : WPX EX ((den sg call pins (.forS tg it body)).S e) Q := by
  refine W_forL (fun (k : Nat) => .int (lo + (k : Int) * (-1))) (List.range N) E I s0 hi h0 (fun i s h hI => ?_) fun s h => hq s (by simpa using h)
  have hN : i < N := by simpa using h
  have e1 : lo + ((List.range N)[i] : Int) * (-1) = lo - (i : Int) := by
    rw [List.getElem_range]
    omega
  rw [e1]
  exact hs i s hN hI
/-- a walk over an enumerated list -/
theorem W_forE {S T : Type} {tg it body : C} (g : T → D) (l : List T) (E : S → Env) (I : Nat → S → Prop) (s0 : S) {Q : Fl → Env → Prop} (hi : WPX EX ((den sg call pins it).I e) (fun ds e1 => ds = enumD (l.map g) ∧ e1 = E s0)) (h0 : I 0 s0)
    (hs : ∀ i s (h : i < l.length), I i s → WPX NE ((den sg call pins tg).G (.tuple [.int (i : Int), g l[i]]) (E s)) (fun _ e1 => RSX EX sg call pins body (stepQ E (I (i + 1)) Q) e1)) (hq : ∀ s, I l.length s → Q .nx (E s)) : WPX EX ((den sg call pins (.forS tg it body)).S e) Q := by
  rw [enumD_map] at hi
  refine W_forL (fun p : T × Nat => .tuple [.int (p.2 : Int), g p.1]) l.zipIdx E I s0 hi h0 (fun i s h hI => ?_) fun s h => hq s (by simpa using h)
  have hN : i < l.length := by simpa using h
  simpa using hs i s hN hI
/-- a comprehension over lo, lo + 1, .. -/
theorem W_lcR {f : D → M (Option D)} (lo : Int) (N : Nat) (h : Nat → D) {Q : List D → Env → Prop} (hs : ∀ i, i < N → WPX NE (f (.int (lo + (i : Int))) e) (fun y e' => y = some (h i) ∧ e' = e)) (q : Q ((List.range N).map h) e) : WPX EX (noEx (lcLoop f (rangeD lo N)) e) Q := by
  refine W_lcM (fun (k : Nat) => .int (lo + (k : Int))) (fun i => some (h i)) (l := List.range N) (fun t ht => hs t (by simpa using ht)) ?_
  rw [List.filterMap_eq_map']
  exact q
/-- a comprehension, all kept -/
theorem W_lcA {T : Type} {f : D → M (Option D)} (g h : T → D) (l : List T) {Q : List D → Env → Prop} (hs : ∀ t ∈ l, WPX NE (f (g t) e) (fun y e' => y = some (h t) ∧ e' = e)) (q : Q (l.map h) e) : WPX EX (noEx (lcLoop f (l.map g)) e) Q := by
  refine W_lcM g (fun t => some (h t)) (l := l) hs ?_
  rw [List.filterMap_eq_map']
  exact q
end
@[simp] theorem l_abs {i : Int} : biD .abs [.int i] = some (.imm (.int (if i < 0 then -i else i))) := rfl
@[simp] theorem c_isI {i : Int} : cmpD .isN (.int i) .none = some false := rfl
@[simp] theorem c_isNN : cmpD .isN .none .none = some true := rfl
@[simp] theorem c_isT {ds : List D} : cmpD .isN (.tuple ds) .none = some false := rfl
@[simp] theorem c_notT {ds : List D} : cmpD .notN (.tuple ds) .none = some true := rfl
@[simp] theorem c_notNN : cmpD .notN .none .none = some false := rfl
theorem b_mulW {i j : Int} (h : i.natAbs < 2 ^ 4096) (h2 : j.natAbs < 2 ^ 4096) : binD .mul (.int i) (.int j) = some (.imm (.int (i * j))) := by
  have lg : ∀ {n : Nat}, n < 2 ^ 4096 → n.log2 < 4096 := fun {n} h => by
    by_cases e : n = 0
    · rw [e]
      decide
    · exact (Nat.log2_lt e).mpr h
  simp only [binD, binI]
  rw [if_pos (.inr ⟨lg h, lg h2⟩)]
  rfl
end Ev
namespace Ev
open PySem
theorem at_appZ {X Y : List Int} {b : Int} {L : List Int} {i : Int} (hL : L = X ++ b :: Y) (h : i = (X.length : Int)) : atD (Zs L) i = some (.int b) := by
  subst hL
  have e : (X ++ b :: Y).getD X.length 0 = b := by simp
  rw [at_Zs h (by simp), e]
theorem ix_app {X Y : List Int} {b : Int} {L : List Int} {i : Int} (hL : L = X ++ b :: Y) (h : i = (X.length : Int)) : L2.ixN L.length i = some X.length := by
  subst hL
  exact ix_nat h (by simp)
theorem set_app {X Y : List Int} {b c : Int} : (X ++ b :: Y).set X.length c = X ++ c :: Y := by simp
end Ev
namespace Ev
open PySem
section
variable {sg : Sig} {call : Call} {pins : List Nat} {e : Env} {EX : Exn → Env → Prop}
/-- a slot that is not changed, shared by now or not -/
def Fz (X : List D) (s : Sl) : Prop := s = .own (.list X) ∨ s = .imm (.list X)
/-- a comprehension whose turns share a slot -/
theorem W_lcRS {f : D → M (Option D)} (lo : Int) (N : Nat) (h : Nat → D) (E : Sl → Env) (X : List D) {s0 : Sl} {Q : List D → Env → Prop} (h0 : Fz X s0)
    (hs : ∀ i s, i < N → Fz X s → WPX NE (f (.int (lo + (i : Int))) (E s)) (fun y e' => y = some (h i) ∧ e' = E (.imm (.list X)))) (q : ∀ s, Fz X s → Q ((List.range N).map h) (E s)) : WPX EX (noEx (lcLoop f (rangeD lo N)) (E s0)) Q := by
  refine W_lc (fun (k : Nat) => .int (lo + (k : Int))) E (fun rest acc s => Fz X s ∧ ∃ i, rest = (List.range N).drop i ∧ i ≤ N ∧ acc = (List.range i).map h) (l := List.range N) s0 ⟨h0, 0, rfl, Nat.zero_le _, rfl⟩ ?_ ?_
  · rintro t rest acc s ⟨hf, i, hr, hi, rfl⟩
    obtain ⟨hl, ht, rfl⟩ := drop_step hr
    have hN : i < N := by simpa using hl
    rw [List.getElem_range] at ht
    subst ht
    refine W_mono (hs t s hN hf) ?_
    rintro y e' ⟨rfl, rfl⟩
    refine ⟨_, rfl, .inr rfl, t + 1, rfl, hN, ?_⟩
    rw [List.range_succ, List.map_append]
    rfl
  · rintro ys s ⟨hf, i, hr, hi, rfl⟩
    have := drop_end hr
    simp only [List.length_range] at this
    obtain rfl : i = N := by omega
    exact q s hf
end
theorem pad_rep {l : List Int} {w : Nat} (h : l.length ≤ w) (hw : w ≤ 100000) : binD .mul (.list [.int 0]) (.int ((w : Int) - (l.length : Int))) = some (.own (.list (List.replicate (w - l.length) (PyData.int 0)))) := by
  have := b_rep (xs := [.int 0]) (k := w - l.length) (by omega) (by simp [lim]; omega)
  rw [show ((w : Int) - (l.length : Int)) = ((w - l.length : Nat) : Int) by omega, this]
  simp
theorem pad_add {l : List Int} {w : Nat} (h : l.length ≤ w) (hw : w ≤ 100000) : binD .add (.list (Zs l)) (.list (List.replicate (w - l.length) (PyData.int 0))) = some (.own (.list (Zs (padR w l)))) := by
  show (if (Zs l).length + (List.replicate (w - l.length) (PyData.int 0)).length ≤ lim then some (Sl.own (.list (Zs l ++ List.replicate (w - l.length) (PyData.int 0)))) else none) = _
  rw [if_pos (by simp [lim]; omega)]
  simp [Zs, padR]
theorem wid_nat (A : List (List Int)) : widI A = ((widI A).toNat : Int) := by
  have := widI_nn A
  omega
theorem wid_lt {A : List (List Int)} {n : Nat} (h : ∀ r ∈ A, r.length < n) (h0 : 0 < n) : (widI A).toNat < n := by
  rcases widI_mem A with z | ⟨r, hr, z⟩
  · rw [z]
    exact h0
  · have := h r hr
    omega
theorem Bd.pad {m : Int} (hm : 0 < m) {l : List Int} (h : Bd m l) (w : Nat) : Bd m (padR w l) := fun a ha => by
  rcases List.mem_append.mp ha with z | z
  · exact h a z
  · rw [(List.mem_replicate.mp z).2]
    exact ⟨Int.le_refl _, hm⟩
theorem Bd.col {m : Int} (hm : 0 < m) {A : List (List Int)} (h : ∀ r ∈ A, Bd m r) (j : Nat) : Bd m (colI A j) := fun a ha => by
  obtain ⟨r, hr, rfl⟩ := List.mem_map.mp ha
  exact (h r hr).at hm j
end Ev
namespace Ev
open PySem
def nullB (m : Int) (T : List (List Int)) : Bool := (List.range T.length).all fun i => (List.range (ro T i).length).all fun j => (co2 T i j).fmod (topI m i j) == 0
def paperI (m : Int) (T : List (List Int)) : List (List Int) := (List.range T.length).map fun i => (List.range (ro T i).length).map fun j => (co2 T i j).fdiv (topI m i j)
def leastI (m : Int) (T : List (List Int)) : List (List Int) := (List.range T.length).map fun i => (List.range (ro T i).length).map fun j => (co2 T i j).fmod (topI m i j)
theorem leastI_row {m : Int} {T : List (List Int)} {w : Nat} (h : ∀ r ∈ T, r.length ≤ w) : ∀ r ∈ leastI m T, r.length ≤ w := fun r hr => by
  obtain ⟨i, hi, rfl⟩ := List.mem_map.mp hr
  simp
  exact ro_len h i
theorem Red.bdl {m : Int} (hm : 0 < m) {L : List Int} (h : Red m L) : Bd m L := by
  rw [← h]
  exact redI_bd hm L
end Ev
end
section
-- fns: common rising_product law_gcd top2 law_top wide_of law_unsplit
namespace Ev
open PySem
namespace K
theorem ev_common (n : Nat) {a b : Int} (ha : a.natAbs < 100000 ∨ b.natAbs < 100000) : wpF (CL (n + 1) "common" [.imm (.int a), .imm (.int b)]) (fun s fin => s = .imm (.int (gcI a b)) ∧ fin = [.imm .none, .imm .none]) := by
  refine WF_unS (un_common _ _) rfl ?_
  unfold c_common
  refine S_go ?_
  simp [den, ofE, pinsOf]
  refine S_go ?_
  simp [den, ofE]
  obtain ⟨x, hx⟩ : ∃ x, x = (if a < 0 then -a else a) := ⟨_, rfl⟩
  obtain ⟨y, hy⟩ : ∃ y, y = (if b < 0 then -b else b) := ⟨_, rfl⟩
  have hg : gcI x y = gcI a b := by rw [hx, hy]; exact gcI_abs a b
  have x0 : 0 ≤ x := by rw [hx]; split <;> omega
  have y0 : 0 ≤ y := by rw [hy]; split <;> omega
  have hl : x < 100000 ∨ y < 100000 := by rw [hx, hy]; split <;> split <;> omega
  rw [← hx, ← hy]
  clear hx hy
  refine S_go ?_
  refine W_whlS (fun s : Int × Int × Option Sl => [some (.imm (.int s.1)), some (.imm (.int s.2.1)), s.2.2]) (fun k s => 0 ≤ s.1 ∧ 0 ≤ s.2.1 ∧ gcI s.1 s.2.1 = gcI a b ∧ k = (if s.2.1 ≤ s.1 then s.2.1 else s.1 + 1).toNat) (x, y, none) ⟨x0, y0, hg, rfl⟩ (by show (if y ≤ x then y else x + 1).toNat < 200000; split <;> omega) ?_
  rintro k ⟨p, q, z⟩ ⟨p0, q0, hg, rfl⟩
  have p0 : 0 ≤ p := p0
  have q0 : 0 ≤ q := q0
  simp [den, ofE]
  by_cases h : 0 < q
  · refine .inr ⟨h, ?_⟩
    have hq : q ≠ 0 := by omega
    refine S_go ?_
    simp [den, ofE, b_mod hq]
    refine S_go ?_
    simp [den, ofE]
    refine S_go ?_
    simp [den, ofE]
    refine S_nil ?_
    simp only [whQ_nx]
    have f0 := Int.fmod_nonneg_of_pos p h
    have f1 := Int.fmod_lt_of_pos p h
    refine ⟨_, (q, p.fmod q, _), ?_, rfl, q0, f0, (gcI_step p q).trans hg, rfl⟩
    show (if p.fmod q ≤ q then p.fmod q else q + 1).toNat < (if q ≤ p then q else p + 1).toNat
    rw [if_pos (by omega)]
    by_cases h2 : q ≤ p
    · rw [if_pos h2]; omega
    · rw [if_neg h2, fmod_small p0 (by omega)]; omega
  · refine .inl ⟨by omega, ?_⟩
    have hq : q = 0 := by omega
    subst hq
    refine S_go ?_
    simp [den, ofE, endQ, finOf]
    rw [← hg]
    exact (gcI_zero p0).symm
theorem ev_rising_product (n : Nat) {k : Nat} (hk : k < 1000000) : wpF (CL (n + 1) "rising_product" [.imm (.int (k : Int))]) (fun s fin => s = .imm (.int (facI k)) ∧ fin = [.imm .none]) := by
  refine WF_unS (un_rising_product _ _) rfl ?_
  unfold c_rising_product
  refine S_go ?_
  simp [den, ofE, pinsOf]
  refine S_go ?_
  have ok1 : okI ((k : Int) + 1) = true := by simp [okI]; omega
  have e : ((k : Int) + 1 - 2).toNat = k - 1 := by omega
  obtain ⟨P, hP⟩ : ∃ P : List Nat → Int × Option Sl → Prop, ∀ rest s, P rest s ↔ ∃ i, rest = (List.range (k - 1)).drop i ∧ i ≤ k - 1 ∧ s.1 = facI (i + 1) := ⟨_, fun _ _ => Iff.rfl⟩
  refine W_forS (fun (t : Nat) => .int (2 + (t : Int))) (fun s : Int × Option Sl => [some (.imm (.int (k : Int))), some (.imm (.int s.1)), s.2]) (l := List.range (k - 1)) P (1, none) ?_ ((hP _ _).mpr ⟨0, by simp, by omega, rfl⟩) ?_ ?_
  · simp [den, ofE, ok1, e, show okI 2 = true by decide]
    rfl
  · rintro t rest ⟨v, z⟩ hI
    obtain ⟨i, hr, hi, hv⟩ := (hP _ _).mp hI
    have hil : i < k - 1 := by
      rcases Nat.lt_or_ge i (k - 1) with h | h
      · exact h
      · rw [List.drop_eq_nil_of_le (by simpa using h)] at hr
        cases hr
    rw [List.drop_eq_getElem_cons (by simpa using hil)] at hr
    simp only [List.getElem_range, List.cons.injEq] at hr
    obtain ⟨rfl, rfl⟩ := hr
    have hv : v = facI (t + 1) := hv
    have mu : ∀ a : Int, binD .mul (.int a) (.int (2 + (t : Int))) = some (.imm (.int (a * (2 + (t : Int))))) := fun a => b_mulR (by omega) (by omega)
    simp [den]
    refine S_go ?_
    simp [den, ofE, mu]
    refine S_nil ?_
    simp only [stepQ_nx]
    refine ⟨(_, _), rfl, (hP _ _).mpr ⟨t + 1, rfl, by omega, ?_⟩⟩
    have e2 : (2 + (t : Int)) = (((t + 1 : Nat) : Int) + 1) := by omega
    exact (congrArg (· * (2 + (t : Int))) hv).trans (congrArg (facI (t + 1) * ·) e2)
  · rintro ⟨v, z⟩ hI
    obtain ⟨i, hr, hi, hv⟩ := (hP _ _).mp hI
    have hv : v = facI (i + 1) := hv
    have hi2 : k - 1 ≤ i := by
      have := congrArg List.length hr
      simp at this
      omega
    simp
    refine S_go ?_
    simp [den, ofE, endQ, finOf]
    rw [hv]
    by_cases h : k = 0
    · subst h
      obtain rfl : i = 0 := by omega
      rfl
    · rw [show i + 1 = k by omega]
theorem ev_law_gcd (n : Nat) {a b : Int} (a0 : 0 ≤ a) (b0 : 0 ≤ b) (ha : a < 100000 ∨ b < 100000) : wpF (CL (n + 1) "_law_gcd" [.imm (.int a), .imm (.int b)]) (fun s fin => s = .imm (.int (gcI a b)) ∧ fin = [.imm .none, .imm .none]) := by
  refine WF_unS (un__law_gcd _ _) rfl ?_
  unfold c__law_gcd
  refine S_go ?_
  refine W_whlS (fun s : Int × Int => [some (.imm (.int s.1)), some (.imm (.int s.2))]) (fun k s => 0 ≤ s.1 ∧ 0 ≤ s.2 ∧ gcI s.1 s.2 = gcI a b ∧ k = (if s.2 ≤ s.1 then s.2 else s.1 + 1).toNat) (a, b) ⟨a0, b0, rfl, rfl⟩ (by show (if b ≤ a then b else a + 1).toNat < 200000; split <;> omega) ?_
  rintro k ⟨p, q⟩ ⟨p0, q0, hg, rfl⟩
  have p0 : 0 ≤ p := p0
  have q0 : 0 ≤ q := q0
  simp [den, ofE, pinsOf]
  by_cases h : 0 < q
  · refine .inr ⟨h, ?_⟩
    have hq : q ≠ 0 := by omega
    refine S_go ?_
    simp [den, ofE, b_mod hq]
    refine S_nil ?_
    simp only [whQ_nx]
    have f0 := Int.fmod_nonneg_of_pos p h
    have f1 := Int.fmod_lt_of_pos p h
    refine ⟨_, (q, p.fmod q), ?_, rfl, q0, f0, (gcI_step p q).trans hg, rfl⟩
    show (if p.fmod q ≤ q then p.fmod q else q + 1).toNat < (if q ≤ p then q else p + 1).toNat
    rw [if_pos (by omega)]
    by_cases h2 : q ≤ p
    · rw [if_pos h2]; omega
    · rw [if_neg h2, fmod_small p0 (by omega)]; omega
  · refine .inl ⟨by omega, ?_⟩
    have hq : q = 0 := by omega
    subst hq
    refine S_go ?_
    simp [den, ofE, endQ, finOf]
    rw [← hg]
    exact (gcI_zero p0).symm
theorem ev_top2 (n : Nat) {m : Int} (hm : 0 < m) (hm2 : m < 100000) {i j : Nat} (hi : i ≤ 100) (hj : j ≤ 100) : wpF (CL (n + 2) "top2" [.imm (.int m), .imm (.int (i : Int)), .imm (.int (j : Int))]) (fun s fin => s = .imm (.int (topI m i j)) ∧ fin = [.imm .none, .imm .none, .imm .none]) := by
  refine WF_unS (un_top2 _ _) rfl ?_
  unfold c_top2
  refine S_go ?_
  simp [den, ofE, pinsOf]
  refine W_call (ms := [false]) lk_rising_product rfl (ev_rising_product n (by omega)) ?_
  rintro s fin ⟨rfl, rfl⟩
  simp [back]
  refine W_call (ms := [false]) lk_rising_product rfl (ev_rising_product n (by omega)) ?_
  rintro s fin ⟨rfl, rfl⟩
  simp [back, b_mulW (facI_abs hi) (facI_abs hj)]
  refine W_call (ms := [false, false]) lk_common rfl (ev_common n (.inl (by omega))) ?_
  rintro s fin ⟨rfl, rfl⟩
  have g0 := gcI_pos (b := facI i * facI j) hm
  have g1 := gcI_le (b := facI i * facI j) hm
  simp [back, b_div (i := m) (j := gcI m (facI i * facI j)) (by omega) (by omega), endQ, finOf]
  rfl
theorem ev_law_top (n : Nat) {m : Int} (hm : 0 < m) (hm2 : m < 100000) {i j : Nat} (hi : i ≤ 100) (hj : j ≤ 100) : wpF (CL (n + 2) "_law_top" [.imm (.int m), .imm (.int (i : Int)), .imm (.int (j : Int))]) (fun s fin => s = .imm (.int (topI m i j)) ∧ fin = [.imm .none, .imm .none, .imm .none]) := by
  refine WF_unS (un__law_top _ _) rfl ?_
  unfold c__law_top
  refine S_go ?_
  simp [den, ofE, pinsOf]
  refine S_go ?_
  have rg : ∀ k : Nat, rangeD 2 ((k : Int) + 1 - 2).toNat = (riseL k).map .int := fun k => by
    unfold rangeD riseL
    rw [List.map_map, show ((k : Int) + 1 - 2).toNat = k - 1 by omega]
    rfl
  have rl : ∀ k : Nat, (riseL k).length = k - 1 := fun k => by simp [riseL]
  have ad : binD .add (.list ((riseL i).map .int)) (.list ((riseL j).map .int)) = some (.own (.list ((riseL i ++ riseL j).map .int))) := by
    show (if ((riseL i).map PyData.int).length + ((riseL j).map PyData.int).length ≤ lim then some (Sl.own (.list ((riseL i).map .int ++ (riseL j).map .int))) else none) = _
    rw [if_pos (by simp [rl, lim]; omega), List.map_append]
  refine W_forL PyData.int (riseL i ++ riseL j) (fun s : Int × Option Sl => [some (.imm (.int m)), some (.imm (.int (i : Int))), some (.imm (.int (j : Int))), some (.imm (.int s.1)), s.2]) (fun k s => s.1 * prodL ((riseL i ++ riseL j).drop k) = facI i * facI j) (1, none) ?_ ?_ ?_ ?_
  · have o1 : okI ((i : Int) + 1) = true := by simp [okI]; omega
    have o2 : okI ((j : Int) + 1) = true := by simp [okI]; omega
    simp [den, ofE, o1, o2, rg, ad, show okI 2 = true by decide]
    exact ⟨by simp [lim]; omega, by simp [lim]; omega⟩
  · show 1 * prodL (riseL i ++ riseL j) = _
    rw [prodL_app, prodL_rise, prodL_rise, Int.one_mul]
  · rintro k ⟨v, z⟩ hk hI
    obtain ⟨a, ha⟩ : ∃ a, a = (riseL i ++ riseL j)[k] := ⟨_, rfl⟩
    have hI : v * prodL ((riseL i ++ riseL j).drop k) = facI i * facI j := hI
    have hb : 0 ≤ a ∧ a < 1000 := by
      have hm : a ∈ riseL i ++ riseL j := by rw [ha]; exact List.getElem_mem hk
      rcases List.mem_append.mp hm with h | h
      · obtain ⟨t, ht, rfl⟩ := List.mem_map.mp h
        have : t < i - 1 := by simpa using ht
        omega
      · obtain ⟨t, ht, rfl⟩ := List.mem_map.mp h
        have : t < j - 1 := by simpa using ht
        omega
    have mu : binD .mul (.int v) (.int a) = some (.imm (.int (v * a))) := b_mulR (by omega) (by omega)
    rw [← ha]
    simp [den]
    refine S_go ?_
    simp [den, ofE, mu]
    refine S_nil ?_
    simp only [stepQ_nx]
    refine ⟨(_, _), rfl, ?_⟩
    show v * a * prodL ((riseL i ++ riseL j).drop (k + 1)) = _
    rw [List.drop_eq_getElem_cons hk, ← ha] at hI
    rw [Int.mul_assoc]
    exact hI
  · rintro ⟨v, z⟩ hI
    have hI : v * prodL ((riseL i ++ riseL j).drop (riseL i ++ riseL j).length) = facI i * facI j := hI
    rw [List.drop_length] at hI
    have hv : v = facI i * facI j := by rw [← hI]; exact (Int.mul_one v).symm
    subst hv
    simp
    refine S_go ?_
    simp [den, ofE]
    refine W_call (ms := [false, false]) lk__law_gcd rfl (ev_law_gcd n (by omega) (Int.le_of_lt (Int.mul_pos (facI_pos i) (facI_pos j))) (.inl (by omega))) ?_
    rintro s fin ⟨rfl, rfl⟩
    have g0 := gcI_pos (b := facI i * facI j) hm
    have g1 := gcI_le (b := facI i * facI j) hm
    simp [back, b_div (i := m) (j := gcI m (facI i * facI j)) (by omega) (by omega), endQ, finOf]
    rfl
theorem ev_wide_of (n : Nat) {rows : List (List Int)} {td : D} (mk : List Int → D) (hs : itemsOf td = some (rows.map mk)) (hlen : ∀ r, biD .len [mk r] = some (.imm (.int r.length))) (hl : rows.length < lim) : wpF (CL (n + 1) "wide_of" [.imm td]) (fun s fin => s = .imm (.int (widI rows)) ∧ fin = [.imm .none]) := by
  refine WF_unS (un_wide_of _ _) rfl ?_
  unfold c_wide_of
  refine S_go ?_
  simp [den, ofE, pinsOf, hs]
  refine W_lcA mk (fun r => .int (r.length : Int)) rows ?_ ?_
  · intro r hr
    simp [hlen]
  rw [show rows.map (fun r => PyData.int (r.length : Int)) = Zs (rows.map fun r => (r.length : Int)) by simp [Function.comp_def]]
  have hz := intsOf_Zs (rows.map fun r => (r.length : Int))
  refine ⟨by simpa using hl, _, hz, ?_⟩
  simp [endQ, finOf]
  rfl
theorem ev_law_unsplit (n : Nat) {m : Int} (hm : 0 < m) {l : List Int} (hl : l.length < 1000) : wpF (CL (n + 1) "_law_unsplit" [.imm (.int m), .imm (.list (Zs l))]) (fun s fin => s = .own (.list (Zs (unsplitN m 0 l))) ∧ fin = [.imm .none, .imm .none]) := by
  have hm0 : m ≠ 0 := by omega
  refine WF_unS (un__law_unsplit _ _) rfl ?_
  unfold c__law_unsplit
  refine S_go ?_
  simp [den, ofE, pinsOf]
  refine S_go ?_
  have ok1 : okI ((l.length : Int) - 1) = true := by simp [okI]; omega
  have eN : ((l.length : Int) - 1 - -1).toNat = l.length := by omega
  obtain ⟨P, hP⟩ : ∃ P : Nat → List Int × Option Sl × Option Sl → Prop, ∀ t s, P t s ↔ ∃ X Y : List Int, l = X ++ Y ∧ Y.length = t ∧ s.1 = X ++ unsplitN m X.length Y := ⟨_, fun _ _ => Iff.rfl⟩
  refine W_forDn ((l.length : Int) - 1) l.length (fun s : List Int × Option Sl × Option Sl => [some (.imm (.int m)), some (.imm (.list (Zs l))), some (.own (.list (Zs s.1))), s.2.1, s.2.2]) P (l, none, none) ?_ ((hP _ _).mpr ⟨l, [], by simp, rfl, (List.append_nil l).symm⟩) ?_ ?_
  · simp [den, ofE, ok1, eN, show okI (-1) = true by decide]
  · rintro t ⟨W, z3, z4⟩ ht hI
    obtain ⟨X, Y, hX, hY, hW⟩ := (hP _ _).mp hI
    have hW : W = X ++ unsplitN m X.length Y := hW
    have hXl : X.length + Y.length = l.length := by rw [hX, List.length_append]
    rcases List.eq_nil_or_concat X with rfl | ⟨X', a, hX'⟩
    · simp at hXl
      omega
    · rw [List.concat_eq_append] at hX'
      subst hX'
      have hX2 : X'.length + 1 + Y.length = l.length := by simpa using hXl
      have hWl : W.length = l.length := by rw [hW, List.length_append, unsplitN_len, List.length_append, List.length_singleton]; omega
      obtain ⟨U, hU⟩ : ∃ U, U = unsplitN m (X'.length + 1) Y := ⟨_, rfl⟩
      have hUl : U.length = Y.length := by rw [hU, unsplitN_len]
      have hW2 : W = X' ++ (a :: U) := by
        rw [hW, List.length_append, List.length_singleton, ← hU]
        simp
      have ek : (l.length : Int) - 1 - (t : Int) = (X'.length : Int) := by omega
      rw [ek]
      simp [den]
      refine S_go ?_
      have o1 : okI (X'.length : Int) = true := by simp [okI]; omega
      have o2 : okI ((W.length : Int) - 1) = true := by simp [okI]; omega
      have eM : ((W.length : Int) - 1 - (X'.length : Int)).toNat = U.length := by omega
      obtain ⟨P2, hP2⟩ : ∃ P2 : Nat → List Int × Option Sl → Prop, ∀ q s, P2 q s ↔ ∃ A R : List Int, s.1 = X' ++ (A ++ R) ∧ unp m (X'.length : Int) (a :: U) = A ++ unp m (X'.length : Int) R ∧ A.length = q ∧ R.length + q = U.length + 1 := ⟨_, fun _ _ => Iff.rfl⟩
      refine W_forR (X'.length : Int) U.length (fun s : List Int × Option Sl => [some (.imm (.int m)), some (.imm (.list (Zs l))), some (.own (.list (Zs s.1))), some (.imm (.int (X'.length : Int))), s.2]) P2 (W, z4) ?_ ((hP2 _ _).mpr ⟨[], a :: U, hW2, rfl, rfl, by simp⟩) ?_ ?_
      · simp [den, ofE, o1, o2, eM]
      · rintro q ⟨V, z⟩ hq hI2
        obtain ⟨A, R, hV, hA, hAl, hR⟩ := (hP2 _ _).mp hI2
        have hV : V = X' ++ (A ++ R) := hV
        rcases R with _ | ⟨b, _ | ⟨c, R⟩⟩
        · simp at hR
          omega
        · simp at hR
          omega
        · have eV : V = (X' ++ A) ++ b :: (c :: R) := by rw [hV]; simp
          have eV2 : V = (X' ++ A ++ [b]) ++ c :: R := by rw [hV]; simp
          have ei : (X'.length : Int) + (q : Int) = ((X' ++ A).length : Int) := by rw [List.length_append]; omega
          have ei2 : (X'.length : Int) + (q : Int) + 1 = ((X' ++ A ++ [b]).length : Int) := by rw [List.length_append, List.length_append, List.length_singleton]; omega
          have a1 := at_appZ eV ei
          have a2 := at_appZ eV2 ei2
          have ix := ix_app eV ei
          have mu : binD .mul (.int (X'.length : Int)) (.int c) = some (.imm (.int ((X'.length : Int) * c))) := b_mulL (by omega) (by omega)
          simp [den]
          refine S_go ?_
          simp [den, ofE, a1, a2, mu, b_mod hm0, ix]
          refine S_nil ?_
          simp only [stepQ_nx]
          refine ⟨(V.set (X'.length + A.length) ((b - (X'.length : Int) * c).fmod m), _), by simp [Zs]; rfl, (hP2 _ _).mpr ⟨A ++ [(b - (X'.length : Int) * c).fmod m], c :: R, ?_, ?_, by simp; omega, by simp at hR ⊢; omega⟩⟩
          · show V.set (X'.length + A.length) _ = _
            have e1 : X'.length + A.length = (X' ++ A).length := by rw [List.length_append]
            rw [e1, eV, set_app]
            simp
          · rw [hA]
            show A ++ ((b - (X'.length : Int) * c).fmod m :: unp m (X'.length : Int) (c :: R)) = _
            simp
      · rintro ⟨V, z⟩ hI2
        obtain ⟨A, R, hV, hA, hAl, hR⟩ := (hP2 _ _).mp hI2
        have hV : V = X' ++ (A ++ R) := hV
        have hR1 : ∃ b, R = [b] := by
          rcases R with _ | ⟨b, _ | ⟨c, R⟩⟩
          · have h3 : ([] : List Int).length + U.length = U.length + 1 := hR
            simp only [List.length_nil] at h3
            omega
          · exact ⟨b, rfl⟩
          · have h3 : (b :: c :: R).length + U.length = U.length + 1 := hR
            simp only [List.length_cons] at h3
            omega
        obtain ⟨b, rfl⟩ := hR1
        simp only [cq_nx]
        refine S_nil ?_
        simp only [stepQ_nx]
        refine ⟨(V, _, _), rfl, (hP _ _).mpr ⟨X', a :: Y, by rw [hX]; simp, by simp; omega, ?_⟩⟩
        show V = X' ++ unp m (X'.length : Int) (a :: unsplitN m (X'.length + 1) Y)
        rw [← hU, hA, hV]
        rfl
  · rintro ⟨W, z3, z4⟩ hI
    obtain ⟨X, Y, hX, hY, hW⟩ := (hP _ _).mp hI
    have hW : W = X ++ unsplitN m X.length Y := hW
    have hXl : X.length + Y.length = l.length := by rw [hX, List.length_append]
    have hX0 : X = [] := List.eq_nil_of_length_eq_zero (by omega)
    subst hX0
    have hlY : l = Y := hX
    subst hlY
    have hW : W = unsplitN m 0 l := hW
    simp
    refine S_go ?_
    simp [den, ofE, endQ, finOf]
    rw [hW]
end K
end Ev
end
section
-- fns: trim law_sum
namespace Ev
open PySem
namespace K
theorem ev_trim (n : Nat) {m : Int} (hm : 0 < m) {rows : List (List Int)} {sq : D} (mk : List Int → D) (hmk : ∀ r, itemsOf (mk r) = some (Zs r)) (hs : itemsOf sq = some (rows.map mk)) (hl : rows.length < 1000) (hr : ∀ r ∈ rows, r.length < 1000) : wpF (CL (n + 1) "_law_trim" [.imm (.int m), .imm sq]) (fun s fin => s = .imm (.tuple (Ts (trimE (rows.map (redI m))))) ∧ fin = [.imm .none, .imm .none]) := by
  refine WF_un (un__law_trim _ _) rfl ?_
  have hm0 : m ≠ 0 := by omega
  simp [den, ofE, c__law_trim, pinsOf, hs]
  refine W_for mk (fun s : List (List Int) × Option Sl × Option Sl => [some (.imm (.int m)), some (.imm sq), some (.own (.list (Ts s.1))), s.2.1, s.2.2, none])
    (fun rs s => s.1.length + rs.length = rows.length ∧ (∀ r ∈ rs, r ∈ rows) ∧ s.1 ++ rs.map (redI m) = rows.map (redI m)) ([], none, none) ⟨by simp, fun _ h => h, rfl⟩ ?_ ?_
  · rintro r rs ⟨F, z1, z2⟩ ⟨hF, hrs, hf⟩
    have hrr := hr r (hrs r (List.mem_cons_self ..))
    have hF : F.length + (r :: rs).length = rows.length := hF
    simp [hmk]
    refine W_lcM PyData.int (fun k => some (.int (k.fmod m))) ?_ ?_
    · intro k hk
      simp [b_mod hm0]
    rw [show r.filterMap (fun k => some (PyData.int (k.fmod m))) = Zs (r.map (·.fmod m)) by simp [Zs]]
    refine ⟨by simp [lim]; omega, by simp, ?_⟩
    refine W_pop (i := 4) (p := isZ) rfl (by simp; omega) ?_ ?_ ?_
    · intro ds hd
      obtain ⟨l, rfl⟩ := all_Zs hd
      have c0 := c_neLE l
      rcases List.eq_nil_or_concat l with rfl | ⟨q, k, rfl⟩
      · simp at c0
        simp [lastIs, c0, lim]
      · simp at c0
        simp [lastIs, isZ, c0, lim]
    · intro ds d
      simp
    · rw [popD_Zs]
      simp
      have hF2 := hF
      simp only [List.length_cons] at hF2
      refine ⟨by simp only [lim]; omega, F ++ [redI m r], Ts_snoc F (redI m r), ?_, fun q hq => hrs q (List.mem_cons_of_mem _ hq), ?_⟩
      · rw [List.length_append, List.length_singleton]
        omega
      · have := hf
        simpa using this
  · rintro ⟨F, z1, z2⟩ ⟨hF, hrs, hf⟩
    have hf : F = rows.map (redI m) := by
      have := hf
      simpa using this
    have hF2 : F.length < 1000 := by rw [hf]; simpa using hl
    simp
    refine W_pop (i := 2) (p := isE) rfl (by simp; omega) ?_ ?_ ?_
    · intro ds hd
      have hk : ∃ l, ds = Ts l := by
        clear hf hF2
        induction ds with
        | nil => exact ⟨[], rfl⟩
        | cons d ds ih =>
          obtain ⟨a, _, rfl⟩ := List.mem_map.mp (hd d (List.mem_cons_self ..))
          obtain ⟨k, rfl⟩ := ih fun x hx => hd x (List.mem_cons_of_mem _ hx)
          exact ⟨a :: k, rfl⟩
      obtain ⟨l, rfl⟩ := hk
      have c0 := c_neLT l
      rcases List.eq_nil_or_concat l with rfl | ⟨q, k, rfl⟩
      · simp at c0
        simp [lastIs, c0, lim]
      · simp at c0
        simp [lastIs, c_eqE, c0, lim]
    · intro ds d
      simp
    · rw [popD_Ts, hf]
      simp [endQ, finOf]
theorem ev_law_sum (n : Nat) {m : Int} (hm : 0 < m) {A : List (List Int)} (hl : A.length < 1000) (hr : ∀ r ∈ A, r.length < 1000) : wpF (CL (n + 2) "_law_sum" [.imm (.int m), .imm (.list (Ls A))]) (fun s fin => s = .imm (.tuple (Ts (trim2 m (unpartsI m A)))) ∧ fin = [.imm .none, .imm .none]) := by
  refine WF_unS (un__law_sum _ _) rfl ?_
  unfold c__law_sum
  obtain ⟨w, hw⟩ : ∃ w, w = (widI A).toNat := ⟨_, rfl⟩
  have hw0 : widI A = (w : Int) := by rw [hw]; exact wid_nat A
  have hw1 : w < 1000 := by rw [hw]; exact wid_lt hr (by omega)
  have hwr : ∀ r ∈ A, r.length ≤ w := fun r h => by rw [hw]; exact wid_row h
  obtain ⟨R, hR⟩ : ∃ R, R = A.map fun r => unsplitN m 0 (padR w r) := ⟨_, rfl⟩
  have hRl : R.length = A.length := by rw [hR]; simp
  obtain ⟨C, hC⟩ : ∃ C, C = (List.range w).map fun j => unsplitN m 0 (colI R j) := ⟨_, rfl⟩
  have hCl : C.length = w := by rw [hC]; simp
  have hRr : ∀ r ∈ R, r.length = w := fun r h => by
    rw [hR] at h
    obtain ⟨r', h', rfl⟩ := List.mem_map.mp h
    rw [unsplitN_len]
    exact padR_len (hwr r' h')
  have hCr : ∀ c ∈ C, c.length = A.length := fun c h => by
    rw [hC] at h
    obtain ⟨j, _, rfl⟩ := List.mem_map.mp h
    rw [unsplitN_len, colI_len, hRl]
  refine S_go ?_
  simp [den, ofE, pinsOf]
  refine W_lcA (fun r => .list (Zs r)) (fun r => .int (r.length : Int)) A ?_ ?_
  · intro r hr
    simp
  rw [show A.map (fun r => PyData.int (r.length : Int)) = Zs (A.map fun r => (r.length : Int)) by simp [Function.comp_def]]
  refine ⟨by simp [lim]; omega, _, intsOf_Zs _, by simp, ?_⟩
  rw [show maxL 0 (A.map fun r => (r.length : Int)) = widI A from rfl]
  rw [hw0]
  simp
  refine S_go ?_
  simp [den, ofE]
  refine W_lcA (fun r => .list (Zs r)) (fun r => .list (Zs (unsplitN m 0 (padR w r)))) A ?_ ?_
  · intro r hrA
    simp [pad_rep (hwr r hrA) (by omega), pad_add (hwr r hrA) (by omega)]
    refine ⟨by decide, ?_⟩
    have hp := padR_len (hwr r hrA)
    refine W_call (ms := [false, false]) lk__law_unsplit rfl (ev_law_unsplit n hm (l := padR w r) (by omega)) ?_
    rintro s fin ⟨rfl, rfl⟩
    simp [back]
  have eR : A.map (fun r => PyData.list (Zs (unsplitN m 0 (padR w r)))) = Ls R := by rw [hR]; simp
  rw [eR]
  refine ⟨by simp [lim]; omega, ?_⟩
  simp
  refine S_go ?_
  have okw : okI (w : Int) = true := by simp [okI]; omega
  simp [den, ofE, okw]
  refine W_lcRS 0 w (fun j => .list (Zs (unsplitN m 0 (colI R j)))) (fun s => [some (.imm (.int m)), some (.imm (.list (Ls A))), some (.imm (.int (w : Int))), some s, none, none, none, none, none]) (Ls R) (.inl rfl) ?_ ?_
  · intro j s hj hf
    have hcol : (colI R j).length < 1000 := by rw [colI_len, hRl]; exact hl
    have hcl : (colI R j).length = A.length := by rw [colI_len, hRl]
    have inner : ∀ r ∈ R, atD (Zs r) (j : Int) = some (.int (co r j)) := fun r h => at_Zs rfl (by rw [hRr r h]; exact hj)
    have eC : R.map (fun r => PyData.int (co r j)) = Zs (colI R j) := by simp [colI, Zs, Function.comp_def]
    rcases hf with rfl | rfl
    · simp
      refine W_lcA (fun r => .list (Zs r)) (fun r => .int (co r j)) R ?_ ?_
      · intro r h
        simp [inner r h, -List.getD_eq_getElem?_getD]
      · rw [eC]
        refine ⟨by simp [lim]; omega, ?_⟩
        refine W_call (ms := [false, false]) lk__law_unsplit rfl (ev_law_unsplit n hm (l := colI R j) hcol) ?_
        rintro s fin ⟨rfl, rfl⟩
        simp [back]
    · simp
      refine W_lcA (fun r => .list (Zs r)) (fun r => .int (co r j)) R ?_ ?_
      · intro r h
        simp [inner r h, -List.getD_eq_getElem?_getD]
      · rw [eC]
        refine ⟨by simp [lim]; omega, ?_⟩
        refine W_call (ms := [false, false]) lk__law_unsplit rfl (ev_law_unsplit n hm (l := colI R j) hcol) ?_
        rintro s fin ⟨rfl, rfl⟩
        simp [back]
  intro s3 hf3
  have eC : (List.range w).map (fun j => PyData.list (Zs (unsplitN m 0 (colI R j)))) = Ls C := by rw [hC]; simp
  rw [eC]
  refine ⟨by simp [lim]; omega, ?_⟩
  simp
  refine S_go ?_
  have okh : okI (A.length : Int) = true := by simp [okI]; omega
  simp [den, ofE, okh]
  refine W_lcRS 0 A.length (fun i => .list (Zs ((List.range w).map fun j => co (ro C j) i))) (fun s => [some (.imm (.int m)), some (.imm (.list (Ls A))), some (.imm (.int (w : Int))), some s3, some s, none, none, none, none]) (Ls C) (.inl rfl) ?_ ?_
  · intro i s hi hf
    have inner : ∀ c ∈ C, atD (Zs c) (i : Int) = some (.int (co c i)) := fun c h => at_Zs rfl (by rw [hCr c h]; exact hi)
    have eI : C.map (fun c => PyData.int (co c i)) = Zs ((List.range w).map fun j => co (ro C j) i) := by
      rw [hC]
      simp only [List.map_map]
      refine List.map_congr_left fun j hj => ?_
      have hj : j < w := by simpa using hj
      show PyData.int (co (unsplitN m 0 (colI R j)) i) = PyData.int (co (ro ((List.range w).map fun j => unsplitN m 0 (colI R j)) j) i)
      rw [ro_rangeMap, if_pos hj]
    rcases hf with rfl | rfl
    · simp
      refine W_lcA (fun r => .list (Zs r)) (fun c => .int (co c i)) C ?_ ?_
      · intro r h
        simp [inner r h, -List.getD_eq_getElem?_getD]
      · rw [eI]
        refine ⟨by simp [lim]; omega, ?_⟩
        simp
    · simp
      refine W_lcA (fun r => .list (Zs r)) (fun c => .int (co c i)) C ?_ ?_
      · intro r h
        simp [inner r h, -List.getD_eq_getElem?_getD]
      · rw [eI]
        refine ⟨by simp [lim]; omega, ?_⟩
        simp
  intro s4 hf4
  have eP : (List.range A.length).map (fun i => PyData.list (Zs ((List.range w).map fun j => co (ro C j) i))) = Ls (unpartsI m A) := by
    unfold unpartsI turnI
    rw [← hw, ← hR, ← hC]
    simp
  rw [eP]
  have hpl : (unpartsI m A).length = A.length := turnI_len ..
  have hpr : ∀ r ∈ unpartsI m A, r.length < 1000 := fun r h => by rw [turnI_row r h, ← hw]; exact hw1
  refine ⟨by simp [lim]; omega, ?_⟩
  refine W_call (ms := [false, false]) lk__law_trim rfl (ev_trim (n + 0) hm (rows := unpartsI m A) (fun r => .list (Zs r)) (fun r => rfl) rfl (by omega) hpr) ?_
  rintro s fin ⟨rfl, rfl⟩
  simp [back, endQ, finOf]
  rfl
end K
end Ev
end
section
-- fns: polyG poly times all_neighbours coefficient_at plus poly2 built
namespace Ev
open PySem
namespace K
theorem ev_polyG (n : Nat) {m : Int} (hm : 0 < m) {ns : List Int} {sq : D} (hs : itemsOf sq = some (Zs ns)) (hl : ns.length < lim) : wpF (CL (n + 1) "poly" [.imm (.int m), .imm sq]) (fun s fin => s = .imm (.tuple (Zs (redI m ns))) ∧ fin = [.imm .none, .imm .none]) := by
  refine WF_un (un_poly _ _) rfl ?_
  simp [den, ofE, c_poly, pinsOf, hs]
  refine W_lcM PyData.int (fun k => some (.int (k.fmod m))) ?_ ?_
  · intro k hk
    have hm0 : m ≠ 0 := by omega
    simp [b_mod hm0]
  rw [show ns.filterMap (fun k => some (PyData.int (k.fmod m))) = Zs (ns.map (·.fmod m)) by simp [Zs]]
  refine ⟨by simpa using hl, by simp, ?_⟩
  refine W_pop (i := 2) (p := isZ) rfl (by simp; simp [lim] at hl; omega) ?_ ?_ ?_
  · intro ds hd
    rcases List.eq_nil_or_concat ds with rfl | ⟨r, d, rfl⟩
    · simp [lastIs]
    · obtain ⟨k, hk, rfl⟩ := List.mem_map.mp (hd d (by simp))
      simp [lastIs, isZ]
  · intro ds d
    simp
  · rw [popD_Zs]
    simp [endQ, finOf, redI]
theorem ev_poly (n : Nat) {m : Int} (hm : 0 < m) {ns : List Int} (hl : ns.length < lim) : wpF (CL (n + 1) "poly" [.imm (.int m), .imm (.list (Zs ns))]) (fun s fin => s = .imm (.tuple (Zs (redI m ns))) ∧ fin = [.imm .none, .imm .none]) := ev_polyG n hm rfl hl
theorem ev_times (n : Nat) {m : Int} (hm : 0 < m) (hm2 : m ≤ 1000000) {f g : List Int} (hb : Bd m f) (hf : f.length < 1000) (hg : g.length < 1000) : wpF (CL (n + 2) "times" [.imm (.int m), .imm (.tuple (Zs f)), .imm (.tuple (Zs g))]) (fun s fin => s = .imm (.tuple (Zs (redI m (conv m f g)))) ∧ fin = [.imm .none, .imm .none, .imm .none]) := by
  rw [un_times]
  refine WF_run rfl ?_
  have hm0 : m ≠ 0 := by omega
  have e0 : binD .mul (.list [.int 0]) (.int ((f.length : Int) + (g.length : Int))) = some (.own (.list (Zs (List.replicate (f.length + g.length) 0)))) := by
    have := b_rep (xs := [.int 0]) (k := f.length + g.length) (by omega) (by simp [lim]; omega)
    rw [show ((f.length : Int) + (g.length : Int)) = ((f.length + g.length : Nat) : Int) by omega, this]
    simp [Zs]
  have ok1 : okI (f.length : Int) = true := by simp [okI]; omega
  have ok2 : okI (g.length : Int) = true := by simp [okI]; omega
  simp [den, ofE, c_times, pinsOf, e0, ok1]
  refine ⟨by decide, ?_⟩
  rw [show List.replicate (f.length + g.length) (PyData.int 0) = Zs (List.replicate (f.length + g.length) 0) by simp [Zs]]
  clear e0 ok1
  refine W_for (fun (i : Nat) => .int (0 + (i : Int))) (fun s : List Int × Option Sl × Option Sl => eT m f g s.1 s.2.1 s.2.2)
    (fun ks s => (∀ k ∈ ks, k < f.length) ∧ s.1.length = f.length + g.length ∧ ks.foldl (fun L i => (List.range g.length).foldl (fun L j => convS m f g L i j) L) s.1 = conv m f g)
    (List.replicate (f.length + g.length) 0, none, none) ⟨fun k hk => by simpa using hk, by simp, rfl⟩ ?_ ?_
  · rintro i ks ⟨L, z1, z2⟩ ⟨hk, hL, hf2⟩
    have hi : i < f.length := hk i (List.mem_cons_self ..)
    simp [ok2, eT]
    refine W_for (fun (i : Nat) => .int (0 + (i : Int))) (fun s : List Int × Option Sl => eT m f g s.1 (some (.imm (.int (i : Int)))) s.2)
      (fun js s => (∀ k ∈ js, k < g.length) ∧ s.1.length = f.length + g.length ∧ ks.foldl (fun L i => (List.range g.length).foldl (fun L j => convS m f g L i j) L) (js.foldl (fun L j => convS m f g L i j) s.1) = conv m f g)
      (L, z2) ⟨fun k hk => by simpa using hk, hL, hf2⟩ ?_ ?_
    · rintro j js ⟨L, z⟩ ⟨hj, hL, hf3⟩
      have hjl : j < g.length := hj j (List.mem_cons_self ..)
      have hL : L.length = f.length + g.length := hL
      have a1 : atD (Zs L) ((i : Int) + (j : Int)) = some (.int (L.getD (i + j) 0)) := at_Zs (by omega) (by omega)
      have a2 : atD (Zs f) (i : Int) = some (.int (f.getD i 0)) := at_Zs rfl hi
      have a3 : atD (Zs g) (j : Int) = some (.int (g.getD j 0)) := at_Zs rfl hjl
      have b := hb.at hm i
      have mu : binD .mul (.int (f.getD i 0)) (.int (g.getD j 0)) = some (.imm (.int (f.getD i 0 * g.getD j 0))) := b_mulL (by omega) (by omega)
      have ix : L2.ixN L.length ((i : Int) + (j : Int)) = some (i + j) := ix_nat (by omega) (by omega)
      simp [a1, a2, a3, mu, b_mod hm0, eT, ix, -List.getD_eq_getElem?_getD]
      rw [Zs_set]
      exact ⟨L.set (i + j) _, rfl, fun k hk => hj k (List.mem_cons_of_mem _ hk), by rw [List.length_set]; exact hL, hf3⟩
    · rintro ⟨L, z⟩ ⟨hj, hL, hf3⟩
      simp only [W_pure, stepQ_nx]
      exact ⟨(L, _, _), rfl, fun k hk' => hk k (List.mem_cons_of_mem _ hk'), hL, hf3⟩
  · rintro ⟨L, z1, z2⟩ ⟨hk, hL, hf2⟩
    have hf3 : L = conv m f g := hf2
    have hL : L.length = f.length + g.length := hL
    subst hf3
    simp [eT]
    refine W_call (ms := [false, false]) lk_poly rfl (ev_poly n hm (ns := conv m f g) (by rw [hL]; simp [lim]; omega)) ?_
    rintro s fin ⟨rfl, rfl⟩
    simp [back, endQ, finOf]
open Al in
theorem ev_all_neighbours (n : Nat) {m : Int} (hm : 0 < m) (hm2 : m ≤ 1000000) {k : Nat} (hk : k < 900) : wpF (CL (n + 3) "all_neighbours" [.imm (.int m), .imm (.int (k : Int))]) (fun s fin => ∃ S : List (List Int), s = .own (.list (Ts S)) ∧ fin = [.imm .none, .imm .none] ∧ S.length = k ∧ ∀ i, i < k → Side m i (ro S i)) := by
  refine WF_unS (un_all_neighbours _ _) rfl ?_
  unfold c_all_neighbours
  refine S_go ?_
  simp [den, ofE, pinsOf]
  refine S_go ?_
  simp [den, ofE]
  refine ⟨by decide, ?_⟩
  refine W_call (ms := [false, false]) lk_poly rfl (ev_poly (n + 1) hm (ns := [1]) (by decide)) ?_
  rintro s fin ⟨rfl, rfl⟩
  simp [back]
  refine S_go ?_
  have ok1 : okI (k : Int) = true := by simp [okI]; omega
  obtain ⟨P, hP⟩ : ∃ P : Nat → List (List Int) × List Int × Option Sl → Prop, ∀ i s, P i s ↔ (s.1.length = i ∧ (∀ j, j < i → Side m j (ro s.1 j)) ∧ Side m i s.2.1) := ⟨_, fun _ _ => Iff.rfl⟩
  refine W_forR 0 k (fun s : List (List Int) × List Int × Option Sl => [some (.imm (.int m)), some (.imm (.int (k : Int))), some (.own (.list (Ts s.1))), some (.imm (.tuple (Zs s.2.1))), s.2.2]) P ([], redI m [1], none) ?_ ((hP _ _).mpr ⟨rfl, fun j h => absurd h (Nat.not_lt_zero _), side_zero hm⟩) ?_ ?_
  · simp [den, ofE, ok1]
  · rintro i ⟨S, L, z⟩ hi hI
    obtain ⟨hS, hj, hL⟩ := (hP _ _).mp hI
    have hS : S.length = i := hS
    have hj : ∀ j, j < i → Side m j (ro S j) := hj
    have hL : Side m i L := hL
    have hLl := side_len hm hL
    simp [den]
    refine S_go ?_
    simp [den, ofE]
    refine ⟨by simp [lim]; omega, ?_⟩
    refine S_go ?_
    simp [den, ofE]
    refine ⟨by decide, ?_⟩
    refine W_call (ms := [false, false]) lk_poly rfl (ev_poly (n + 1) hm (ns := [-(i : Int), 1]) (by simp [lim])) ?_
    rintro s fin ⟨rfl, rfl⟩
    simp [back]
    have hg := redI_len m [-(i : Int), 1]
    have hg2 : (redI m [-(i : Int), 1]).length ≤ 2 := hg
    refine W_call (ms := [false, false, false]) lk_times rfl (ev_times n hm hm2 (f := L) (g := redI m [-(i : Int), 1]) (hL.red.bdl hm) (by omega) (by omega)) ?_
    rintro s fin ⟨rfl, rfl⟩
    simp [back]
    refine S_nil ?_
    simp only [stepQ_nx]
    refine ⟨(S ++ [L], redI m (conv m L (redI m [-(i : Int), 1])), _), by simp; rfl, (hP _ _).mpr ⟨by simp; exact hS, ?_, side_next hm hL⟩⟩
    intro j hji
    show Side m j (ro (S ++ [L]) j)
    by_cases q : j < i
    · have e1 : ro (S ++ [L]) j = ro S j := by unfold ro; simp [List.getElem?_append_left (show j < S.length by omega)]
      rw [e1]
      exact hj j q
    · obtain rfl : j = i := by omega
      have e1 : ro (S ++ [L]) j = L := by unfold ro; rw [List.getD_eq_getElem?_getD, List.getElem?_append_right (by omega)]; simp [hS]
      rw [e1]
      exact hL
  · rintro ⟨S, L, z⟩ hI
    obtain ⟨hS, hj, hL⟩ := (hP _ _).mp hI
    simp
    refine S_go ?_
    simp [den, ofE, endQ, finOf]
    exact ⟨S, rfl, hS, hj⟩
theorem ev_coefficient_at (n : Nat) {fs : List Int} {k : Nat} : wpF (CL (n + 1) "coefficient_at" [.imm (.tuple (Zs fs)), .imm (.int k)]) (fun s fin => s = .imm (.int (fs.getD k 0)) ∧ fin = [.imm .none, .imm .none]) := by
  rw [un_coefficient_at]
  refine WF_run rfl ?_
  simp [den, ofE, c_coefficient_at, pinsOf]
  by_cases h : k < fs.length
  · refine .inr ⟨h, .int fs[k], at_nat (by omega) ?_, ?_⟩
    · simp [Zs, h]
    · simp [endQ, finOf, h]
  · refine .inl ⟨by omega, ?_⟩
    simp [endQ, finOf, List.getElem?_eq_none (Nat.le_of_not_lt h)]
theorem ev_plus (n : Nat) {m : Int} (hm : 0 < m) {f g : List Int} (hf : f.length < 1000) (hg : g.length < 1000) : wpF (CL (n + 2) "plus" [.imm (.int m), .imm (.tuple (Zs f)), .imm (.tuple (Zs g))]) (fun s fin => s = .imm (.tuple (Zs (redI m (addI f g)))) ∧ fin = [.imm .none, .imm .none, .imm .none]) := by
  rw [un_plus]
  refine WF_run rfl ?_
  simp [den, ofE, c_plus, pinsOf]
  refine ⟨by simp [okI]; split <;> omega, ?_⟩
  rw [range_map]
  refine W_lcM _ (fun k => some (.int (f.getD k 0 + g.getD k 0))) ?_ ?_
  · intro k hk
    simp
    refine W_call (ms := [false, false]) lk_coefficient_at rfl (by have := ev_coefficient_at n (fs := f) (k := k); simpa using this) ?_
    rintro s fin ⟨rfl, rfl⟩
    simp [back]
    refine W_call (ms := [false, false]) lk_coefficient_at rfl (by have := ev_coefficient_at n (fs := g) (k := k); simpa using this) ?_
    rintro s fin ⟨rfl, rfl⟩
    simp [back]
  have e : (if f.length < g.length then (g.length : Int) else f.length).toNat = max f.length g.length := by
    split <;> omega
  rw [e]
  have hz : (List.range (max f.length g.length)).filterMap (fun k => some (PyData.int (f.getD k 0 + g.getD k 0))) = Zs (addI f g) := by simp [Zs, addI]
  rw [hz]
  have hl : (addI f g).length < lim := by
    simp [addI, lim]
    omega
  refine ⟨by simpa using hl, ?_⟩
  refine W_call (ms := [false, false]) lk_poly rfl (ev_poly n hm hl) ?_
  rintro s fin ⟨rfl, rfl⟩
  simp [back, endQ, finOf]
theorem ev_poly2 (n : Nat) {m : Int} (hm : 0 < m) {rows : List (List Int)} (mk : List Int → D) (hmk : ∀ r, itemsOf (mk r) = some (Zs r)) (hl : rows.length < lim) (hr : ∀ r ∈ rows, r.length < lim) : wpF (CL (n + 2) "poly2" [.imm (.int m), .imm (.list (rows.map mk))]) (fun s fin => s = .imm (.tuple (Ts (trimE (rows.map (redI m))))) ∧ fin = [.imm .none, .imm .none]) := by
  refine WF_un (un_poly2 _ _) rfl ?_
  simp [den, ofE, c_poly2, pinsOf]
  refine W_lcM _ (fun r => some (.tuple (Zs (redI m r)))) ?_ ?_
  · intro r hrr
    simp
    refine W_call (ms := [false, false]) lk_poly rfl (ev_polyG n hm (hmk r) (hr r hrr)) ?_
    rintro s fin ⟨rfl, rfl⟩
    simp [back]
  rw [show rows.filterMap (fun r => some (PyData.tuple (Zs (redI m r)))) = Ts (rows.map (redI m)) by simp]
  refine ⟨by simpa using hl, by simp, ?_⟩
  refine W_pop (i := 2) (p := isE) rfl (by simp; simp [lim] at hl; omega) ?_ ?_ ?_
  · intro ds hd
    rcases List.eq_nil_or_concat ds with rfl | ⟨r, d, rfl⟩
    · simp [lastIs]
    · obtain ⟨k, hk, rfl⟩ := List.mem_map.mp (hd d (by simp))
      simp [lastIs, c_eqE]
  · intro ds d
    simp
  · rw [popD_Ts]
    simp [endQ, finOf]
open Al in
theorem ev_built (n : Nat) {m : Int} (hm : 0 < m) (hm2 : m ≤ 1000000) {T : List (List Int)} {w : Nat} (hl : T.length < 800) (hw : ∀ r ∈ T, r.length ≤ w) (hw2 : w < 800) : wpF (CL (n + 4) "built" [.imm (.int m), .imm (.list (Ls T))]) (fun s fin => ∃ B, s = .imm (.tuple (Ts B)) ∧ fin = [.imm .none, .imm .none] ∧ Is2 m B (F2 m T) T.length w) := by
  have hm0 : m ≠ 0 := by omega
  refine WF_unS (un_built _ _) rfl ?_
  unfold c_built
  obtain ⟨v, hv⟩ : ∃ v, v = (widI T).toNat := ⟨_, rfl⟩
  have hv0 : widI T = (v : Int) := by rw [hv]; exact wid_nat T
  have hvw : v ≤ w := by
    rcases widI_mem T with z | ⟨r, hr, z⟩
    · omega
    · have := hw r hr
      omega
  have hrv : ∀ r ∈ T, r.length ≤ v := fun r h => by rw [hv]; exact wid_row h
  obtain ⟨kk, hK⟩ : ∃ k, k = max T.length v := ⟨_, rfl⟩
  have eK : (if T.length < v then (v : Int) else (T.length : Int)) = (kk : Int) := by split <;> omega
  refine S_go ?_
  simp [den, ofE, pinsOf]
  refine W_call (ms := [false]) lk_wide_of rfl (ev_wide_of (n + 2) (rows := T) (fun r => .list (Zs r)) rfl (fun r => by simp) (by simp [lim]; omega)) ?_
  rintro s fin ⟨rfl, rfl⟩
  rw [hv0]
  simp [back]
  rw [eK]
  refine W_call (ms := [false, false]) lk_all_neighbours rfl (ev_all_neighbours n hm hm2 (k := kk) (by omega)) ?_
  rintro s fin ⟨S, rfl, rfl, hSl, hS⟩
  simp [back]
  have e0 : binD .mul (.list [.tuple []]) (.int (T.length : Int)) = some (.own (.list (Ts (List.replicate T.length [])))) := by
    rw [b_rep (xs := [.tuple []]) (k := T.length) (by omega) (by simp [lim]; omega)]
    simp
  simp only [List.map_replicate, List.map_nil] at e0
  refine S_go ?_
  simp [den, ofE, e0]
  refine ⟨by decide, ?_⟩
  rw [show List.replicate T.length (PyData.tuple []) = Ts (List.replicate T.length []) by simp]
  refine S_go ?_
  obtain ⟨P, hP⟩ : ∃ P : Nat → List (List Int) × Option Sl × Option Sl × Option Sl × Option Sl × Option Sl × Option Sl → Prop, ∀ i s, P i s ↔ (s.1.length = T.length ∧ ∀ e, e < T.length → Red m (ro s.1 e) ∧ ofL m (ro s.1 e) = cellP m T w i e) := ⟨_, fun _ _ => Iff.rfl⟩
  refine W_forE (fun r => .list (Zs r)) T (fun s : List (List Int) × Option Sl × Option Sl × Option Sl × Option Sl × Option Sl × Option Sl => [some (.imm (.int m)), some (.imm (.list (Ls T))), some (.own (.list (Ts S))), some (.own (.list (Ts s.1))), s.2.1, s.2.2.1, s.2.2.2.1, s.2.2.2.2.1, s.2.2.2.2.2.1, s.2.2.2.2.2.2]) P (List.replicate T.length [], none, none, none, none, none, none) ?_ ((hP _ _).mpr ⟨by simp, fun e he => ?_⟩) ?_ ?_
  · simp [den, ofE]
  · have e1 : ro (List.replicate T.length []) e = [] := by simp [ro, he]
    show Red m (ro (List.replicate T.length []) e) ∧ ofL m (ro (List.replicate T.length []) e) = _
    rw [e1]
    exact ⟨Red.nil m, ofL_nil⟩
  · rintro i ⟨F, z4, z5, z6, z7, z8, z9⟩ hi hI
    obtain ⟨hF, hFe⟩ := (hP _ _).mp hI
    have hF : F.length = T.length := hF
    have hFe : ∀ e, e < T.length → Red m (ro F e) ∧ ofL m (ro F e) = cellP m T w i e := hFe
    obtain ⟨r, hr⟩ : ∃ r, r = T[i] := ⟨_, rfl⟩
    have hro : ro T i = r := by rw [hr]; simp [ro, hi]
    have hrl : r.length ≤ v := hrv r (by rw [hr]; exact List.getElem_mem hi)
    have hrK : r.length ≤ kk := by omega
    rw [← hr]
    simp [den, W_nx, stores]
    refine S_go ?_
    simp [den, ofE]
    -- the row's own sum
    refine S_cut (fun e1 => ∃ L y7 y8, Red m L ∧ ofL m L = rowP m r r.length ∧ e1 = [some (.imm (.int m)), some (.imm (.list (Ls T))), some (.own (.list (Ts S))), some (.own (.list (Ts F))), some (.imm (.int (i : Int))), some (.imm (.list (Zs r))), some (.imm (.tuple (Zs L))), y7, y8, z9]) ?_ ?_
    · obtain ⟨P2, hP2⟩ : ∃ P2 : Nat → List Int × Option Sl × Option Sl → Prop, ∀ j s, P2 j s ↔ (Red m s.1 ∧ ofL m s.1 = rowP m r j) := ⟨_, fun _ _ => Iff.rfl⟩
      refine W_forE PyData.int r (fun s : List Int × Option Sl × Option Sl => [some (.imm (.int m)), some (.imm (.list (Ls T))), some (.own (.list (Ts S))), some (.own (.list (Ts F))), some (.imm (.int (i : Int))), some (.imm (.list (Zs r))), some (.imm (.tuple (Zs s.1))), s.2.1, s.2.2, z9]) P2 ([], z7, z8) ?_ ((hP2 _ _).mpr ⟨Red.nil m, ofL_nil⟩) ?_ ?_
      · simp [den, ofE]
      · rintro j ⟨L, y7, y8⟩ hj hI2
        obtain ⟨hL, hLp⟩ := (hP2 _ _).mp hI2
        have hL : Red m L := hL
        have hLp : ofL m L = rowP m r j := hLp
        have hLl : L.length ≤ j := red_len hm hL fun k hk => by rw [hLp]; exact rowP_deg r j k hk
        obtain ⟨a, ha⟩ : ∃ a, a = r[j] := ⟨_, rfl⟩
        have hco : co r j = a := by rw [ha]; exact co_ix hj
        have side := hS j (by omega)
        have sl := side_len hm side
        have a1 : atD (Ts S) (j : Int) = some (.tuple (Zs (ro S j))) := at_Ts rfl (by omega)
        rw [← ha]
        simp [den, W_nx, stores]
        refine S_go ?_
        refine W_ifS ?_
        simp [den, ofE, b_mod hm0]
        by_cases h0 : a.fmod m = 0
        · refine .inl ⟨h0, ?_⟩
          refine S_nil ?_
          simp only [cq_nx]
          refine S_nil ?_
          simp only [stepQ_nx]
          exact ⟨(L, _, _), rfl, (hP2 _ _).mpr ⟨hL, hLp.trans (rowP_skip (by rw [hco]; exact h0)).symm⟩⟩
        · refine .inr ⟨h0, ?_⟩
          have g1 : (redI m [a]).length ≤ 1 := redI_len m [a]
          have g2 := redI_len m (conv m (ro S j) (redI m [a]))
          rw [conv_len] at g2
          refine S_go ?_
          simp [den, ofE, a1]
          refine ⟨by decide, ?_⟩
          refine W_call (ms := [false, false]) lk_poly rfl (ev_poly (n + 2) hm (ns := [a]) (by simp [lim])) ?_
          rintro s fin ⟨rfl, rfl⟩
          simp [back]
          refine W_call (ms := [false, false, false]) lk_times rfl (ev_times (n + 1) hm hm2 (f := ro S j) (g := redI m [a]) (side.red.bdl hm) (by omega) (by omega)) ?_
          rintro s fin ⟨rfl, rfl⟩
          simp [back]
          refine W_call (ms := [false, false, false]) lk_plus rfl (ev_plus (n + 1) hm (f := L) (g := redI m (conv m (ro S j) (redI m [a]))) (by omega) (by omega)) ?_
          rintro s fin ⟨rfl, rfl⟩
          simp [back]
          refine S_nil ?_
          simp only [cq_nx]
          refine S_nil ?_
          simp only [stepQ_nx]
          refine ⟨(redI m (K.addI L (redI m (conv m (ro S j) (redI m [a])))), _, _), rfl, (hP2 _ _).mpr ⟨redI_red hm _, ?_⟩⟩
          have := rowP_next (r := r) (j := j) hm hLp side
          rw [hco] at this
          exact this
      · rintro ⟨L, y7, y8⟩ hI2
        obtain ⟨hL, hLp⟩ := (hP2 _ _).mp hI2
        simp only [cq_nx]
        exact ⟨L, y7, y8, hL, hLp, rfl⟩
    rintro e1 ⟨L, y7, y8, hL, hLp, rfl⟩
    have hLw : ofL m L = rowP m (ro T i) w := by
      rw [hLp, hro]
      unfold rowP
      exact (gs_more (by omega) fun k hk => by rw [co_ge hk]; show Poly.const (0 : Zm m) * _ = 0; rw [Poly.const_zero]; grind).symm
    have hLl : L.length ≤ w := red_len hm hL fun k hk => by rw [hLw]; exact rowP_deg _ _ _ hk
    have side := hS i (by omega)
    have sl := side_len hm side
    have a1 : atD (Ts S) (i : Int) = some (.tuple (Zs (ro S i))) := at_Ts rfl (by omega)
    refine S_go ?_
    refine W_ifS ?_
    have cE := c_neE L
    have fin : ∀ {G : List (List Int)} {y8 y9 : Option Sl}, G.length = T.length → (∀ e, e < T.length → Red m (ro G e) ∧ ofL m (ro G e) = cellP m T w (i + 1) e) →
        RSX NE SG (CL (n + 3)) [] .sNil (stepQ (fun s : List (List Int) × Option Sl × Option Sl × Option Sl × Option Sl × Option Sl × Option Sl => [some (.imm (.int m)), some (.imm (.list (Ls T))), some (.own (.list (Ts S))), some (.own (.list (Ts s.1))), s.2.1, s.2.2.1, s.2.2.2.1, s.2.2.2.2.1, s.2.2.2.2.2.1, s.2.2.2.2.2.2]) (P (i + 1)) (cq (RSX NE SG (CL (n + 3)) [] (.sCons (.ret (.call "poly2" (.cons (.var 0) (.cons (.var 3) .nil)))) .sNil) (endQ [false, false] fun s fin => ∃ B, s = .imm (.tuple (Ts B)) ∧ fin = [.imm .none, .imm .none] ∧ Is2 m B (F2 m T) T.length w)) (endQ [false, false] fun s fin => ∃ B, s = .imm (.tuple (Ts B)) ∧ fin = [.imm .none, .imm .none] ∧ Is2 m B (F2 m T) T.length w)))
          [some (.imm (.int m)), some (.imm (.list (Ls T))), some (.own (.list (Ts S))), some (.own (.list (Ts G))), some (.imm (.int (i : Int))), some (.imm (.list (Zs r))), some (.imm (.tuple (Zs L))), y7, y8, y9] := fun {G y8 y9} h1 h2 => by
      refine S_nil ?_
      simp only [stepQ_nx]
      exact ⟨(G, _, _, _, _, _, _), rfl, (hP _ _).mpr ⟨h1, h2⟩⟩
    cases hLc : L with
    | nil =>
      subst hLc
      simp [den, ofE, show cmpD .ne (.tuple []) (.tuple []) = some false by rfl]
      refine S_nil ?_
      simp only [cq_nx]
      have h0 : rowP m (ro T i) w = 0 := by rw [← hLw]; exact ofL_nil
      exact fin hF fun e he => ⟨(hFe e he).1, (hFe e he).2.trans (cellP_void h0).symm⟩
    | cons b L' =>
      rw [← hLc]
      have cE2 : cmpD .ne (.tuple (Zs L)) (.tuple []) = some true := by rw [cE, hLc]; rfl
      simp [den, ofE, cE2]
      refine S_go ?_
      obtain ⟨P3, hP3⟩ : ∃ P3 : Nat → List (List Int) × Option Sl × Option Sl → Prop, ∀ q s, P3 q s ↔ (s.1.length = T.length ∧ ∀ e, e < T.length → Red m (ro s.1 e) ∧ ofL m (ro s.1 e) = cellP m T w (if e < q then i + 1 else i) e) := ⟨_, fun _ _ => Iff.rfl⟩
      refine W_forE PyData.int (ro S i) (fun s : List (List Int) × Option Sl × Option Sl => [some (.imm (.int m)), some (.imm (.list (Ls T))), some (.own (.list (Ts S))), some (.own (.list (Ts s.1))), some (.imm (.int (i : Int))), some (.imm (.list (Zs r))), some (.imm (.tuple (Zs L))), y7, s.2.1, s.2.2]) P3 (F, y8, z9) ?_ ((hP3 _ _).mpr ⟨hF, fun e he => by rw [if_neg (Nat.not_lt_zero e)]; exact hFe e he⟩) ?_ ?_
      · simp [den, ofE, a1]
      · rintro q ⟨G, x8, x9⟩ hq hI3
        obtain ⟨hG, hGe⟩ := (hP3 _ _).mp hI3
        have hG : G.length = T.length := hG
        have hGe : ∀ e, e < T.length → Red m (ro G e) ∧ ofL m (ro G e) = cellP m T w (if e < q then i + 1 else i) e := hGe
        have hqT : q < T.length := by omega
        obtain ⟨g1, g2⟩ := hGe q hqT
        rw [if_neg (Nat.lt_irrefl q)] at g2
        have gl : (ro G q).length ≤ w := red_len hm g1 fun k hk => by rw [g2]; exact cellP_deg _ _ _ _ _ hk
        obtain ⟨a, ha⟩ : ∃ a, a = (ro S i)[q] := ⟨_, rfl⟩
        have hco : co (ro S i) q = a := by rw [ha]; exact co_ix hq
        have a2 : atD (Ts G) (q : Int) = some (.tuple (Zs (ro G q))) := at_Ts rfl (by omega)
        have ix : L2.ixN G.length (q : Int) = some q := ix_nat rfl (by omega)
        have k1 : (redI m [a]).length ≤ 1 := redI_len m [a]
        have k2 := redI_len m (conv m L (redI m [a]))
        rw [conv_len] at k2
        rw [← ha]
        simp [den, W_nx, stores]
        refine S_go ?_
        simp [den, ofE, a2]
        refine ⟨by decide, ?_⟩
        refine W_call (ms := [false, false]) lk_poly rfl (ev_poly (n + 2) hm (ns := [a]) (by simp [lim])) ?_
        rintro s fin ⟨rfl, rfl⟩
        simp [back]
        refine W_call (ms := [false, false, false]) lk_times rfl (ev_times (n + 1) hm hm2 (f := L) (g := redI m [a]) (hL.bdl hm) (by omega) (by omega)) ?_
        rintro s fin ⟨rfl, rfl⟩
        simp [back]
        refine W_call (ms := [false, false, false]) lk_plus rfl (ev_plus (n + 1) hm (f := ro G q) (g := redI m (conv m L (redI m [a]))) (by omega) (by omega)) ?_
        rintro s fin ⟨rfl, rfl⟩
        simp [back, ix]
        refine S_nil ?_
        simp only [stepQ_nx]
        refine ⟨(G.set q (redI m (K.addI (ro G q) (redI m (conv m L (redI m [a]))))), _, _), by simp; exact ⟨rfl, rfl⟩, (hP3 _ _).mpr ⟨by simp; exact hG, fun e he => ?_⟩⟩
        show Red m (ro (G.set q _) e) ∧ ofL m (ro (G.set q _) e) = _
        rw [ro_set _ _ _ _ (by omega : q < G.length)]
        by_cases heq : e = q
        · subst heq
          rw [if_pos rfl, if_pos (Nat.lt_succ_self e)]
          have := cellP_next (T := T) (w := w) (i := i) (e := e) g2 hLw side
          rw [hco] at this
          exact ⟨redI_red hm _, this⟩
        · rw [if_neg heq]
          obtain ⟨h1, h2⟩ := hGe e he
          refine ⟨h1, h2.trans ?_⟩
          by_cases h3 : e < q
          · rw [if_pos h3, if_pos (by omega)]
          · rw [if_neg h3, if_neg (by omega)]
      · rintro ⟨G, x8, x9⟩ hI3
        obtain ⟨hG, hGe⟩ := (hP3 _ _).mp hI3
        simp only [cq_nx]
        refine S_nil ?_
        simp only [cq_nx]
        refine fin hG fun e he => ?_
        obtain ⟨h1, h2⟩ := hGe e he
        refine ⟨h1, h2.trans ?_⟩
        by_cases h3 : e < (ro S i).length
        · rw [if_pos h3]
        · rw [if_neg h3]
          refine (cellP_skip ?_).symm
          rw [← side.is]
          show mk m (co (ro S i) e) = 0
          rw [co_ge (Nat.le_of_not_lt h3)]
          rfl
  · rintro ⟨F, z4, z5, z6, z7, z8, z9⟩ hI
    obtain ⟨hF, hFe⟩ := (hP _ _).mp hI
    have hF : F.length = T.length := hF
    have hFe : ∀ e, e < T.length → Red m (ro F e) ∧ ofL m (ro F e) = cellP m T w T.length e := hFe
    have hFr : ∀ r ∈ F, r.length ≤ w := fun r h => by
      obtain ⟨e, he, rfl⟩ := List.getElem_of_mem h
      have hro : ro F e = F[e] := by simp [ro, he]
      obtain ⟨h1, h2⟩ := hFe e (by omega)
      rw [hro] at h1 h2
      exact red_len hm h1 fun k hk => by rw [h2]; exact cellP_deg _ _ _ _ _ hk
    simp
    refine S_go ?_
    simp [den, ofE]
    refine W_call (ms := [false, false]) lk_poly2 rfl (ev_poly2 (n + 1) hm (rows := F) (fun r => .tuple (Zs r)) (fun r => rfl) (by simp [lim]; omega) (fun r h => by have := hFr r h; simp [lim]; omega)) ?_
    rintro s fin ⟨rfl, rfl⟩
    simp [back, endQ, finOf]
    exact ⟨_, rfl, Is2.trim hm (cells_F2 hw hF fun e he => (hFe e he).2) (by omega) hFr⟩
end K
end Ev
end
section
namespace Ev
open PySem
theorem zip_Zs {a b : List Int} {n : Nat} (ha : a.length = n) (hb : b.length = n) : zipD (Zs a) (Zs b) = (List.range n).map fun j => .tuple [.int (co a j), .int (co b j)] := by
  refine List.ext_getElem? fun i => ?_
  unfold zipD
  rw [List.getElem?_map, List.getElem?_map]
  by_cases h : i < n
  · have h1 : (Zs a)[i]? = some (.int (co a i)) := Zs_get (by omega)
    have h2 : (Zs b)[i]? = some (.int (co b i)) := Zs_get (by omega)
    have h3 : ((Zs a).zip (Zs b))[i]? = some (.int (co a i), .int (co b i)) := List.getElem?_zip_eq_some.mpr ⟨h1, h2⟩
    rw [h3, List.getElem?_range h]
    rfl
  · have h1 : ((Zs a).zip (Zs b))[i]? = none := List.getElem?_eq_none (by simp; omega)
    have h2 : (List.range n)[i]? = none := List.getElem?_eq_none (by simp; omega)
    rw [h1, h2]
    rfl
@[simp] theorem zipO_l {a b : List D} : zipO (.list a) (.list b) = some (zipD a b) := rfl
theorem boolsOf_map : ∀ bs : List Bool, boolsOf (bs.map .bool) = some bs
  | [] => rfl
  | b :: bs => by
    show (boolsOf (bs.map .bool)).map (b :: ·) = _
    rw [boolsOf_map bs]
    rfl
theorem any_bs (bs : List Bool) : biD .any [.list (bs.map .bool)] = some (.imm (.bool (bs.any id))) := by
  show (boolsOf (bs.map .bool)).map (fun bs => Sl.imm (.bool (bs.any id))) = _
  rw [boolsOf_map]
  rfl
def rowB (m : Int) (r : List Int) (i : Nat) : Bool := (List.range r.length).all fun j => (co r j).fmod (topI m i j) == 0
theorem nullB_eq (m : Int) (T : List (List Int)) : nullB m T = (List.range T.length).all fun i => rowB m (ro T i) i := rfl
theorem nullB_no {m : Int} {T : List (List Int)} {i : Nat} (hi : i < T.length) (h : rowB m (ro T i) i = false) : nullB m T = false := by
  rw [nullB_eq]
  refine Bool.eq_false_iff.mpr fun z => ?_
  have := List.all_eq_true.mp z i (List.mem_range.mpr hi)
  rw [h] at this
  cases this
theorem nullB_yes {m : Int} {T : List (List Int)} (h : ∀ i, i < T.length → rowB m (ro T i) i = true) : nullB m T = true := by
  rw [nullB_eq]
  exact List.all_eq_true.mpr fun i hi => h i (List.mem_range.mp hi)
theorem any_rowB (m : Int) (r : List Int) (i : Nat) : ((List.range r.length).map fun j => !((co r j).fmod (topI m i j) == 0)).any id = !rowB m r i := by
  unfold rowB
  rw [List.any_map]
  induction (List.range r.length) with
  | nil => rfl
  | cons a l ih =>
    simp only [List.any_cons, List.all_cons, Bool.not_and]
    rw [ih]
    rfl
theorem take_snoc {T : Type} {f : Nat → T} {n i : Nat} (h : i < n) : ((List.range n).map f).take i ++ [f i] = ((List.range n).map f).take (i + 1) := by
  rw [List.take_add_one]
  congr 1
  rw [List.getElem?_map, List.getElem?_range h]
  rfl
end Ev
namespace Ev
open PySem
theorem all_filter {x : Nat → Int} (h : ∀ j, 0 ≤ x j) : ∀ l : List Nat, l.all (fun j => x j == 0) = (l.filter fun j => decide (0 < x j)).isEmpty
  | [] => rfl
  | a :: l => by
    rw [List.all_cons, List.filter_cons, all_filter h l]
    have := h a
    by_cases z : x a = 0
    · rw [if_neg (by simp [z])]
      simp [z]
    · rw [if_pos (by simp; omega)]
      simp [z]
theorem rowB_filter {m : Int} (hm : 0 < m) (r : List Int) (i : Nat) : rowB m r i = ((List.range r.length).filter fun j => decide (0 < (co r j).fmod (topI m i j))).isEmpty :=
  all_filter (fun j => Int.fmod_nonneg_of_pos _ (top_pos hm i j)) _
end Ev
end
section
namespace Ev
structure CoefQ (m w c v : Int) : Prop where
  nn : 0 ≤ v
  lt : v < m.fdiv (gcI m w)
  cg : Cg m (v * w) c
theorem gc_parts {m w : Int} (hm : 0 < m) : ∃ g a b, g = gcI m w ∧ 0 < g ∧ m = g * a ∧ w = g * b ∧ m.fdiv g = a ∧ w.fdiv g = b ∧ 0 < a ∧ Int.gcd a b = 1 := by
  have hg := gcI_pos (b := w) hm
  obtain ⟨a, ha⟩ : gcI m w ∣ m := Int.gcd_dvd_left ..
  obtain ⟨b, hb⟩ : gcI m w ∣ w := Int.gcd_dvd_right ..
  obtain ⟨g, hgd⟩ : ∃ g, g = gcI m w := ⟨_, rfl⟩
  rw [← hgd] at ha hb hg
  refine ⟨g, a, b, hgd, hg, ha, hb, ?_, ?_, ?_, ?_⟩
  · rw [Int.fdiv_eq_ediv_of_nonneg _ (by omega)]
    exact Int.ediv_eq_of_eq_mul_right (by omega) ha
  · rw [Int.fdiv_eq_ediv_of_nonneg _ (by omega)]
    exact Int.ediv_eq_of_eq_mul_right (by omega) hb
  · rcases Int.lt_trichotomy a 0 with z | z | z
    · have := Int.mul_neg_of_pos_of_neg hg z
      omega
    · rw [z, Int.mul_zero] at ha
      omega
    · exact z
  · have h1 : Int.gcd (g * a) (g * b) = g.natAbs * Int.gcd a b := Int.gcd_mul_left ..
    rw [← ha, ← hb] at h1
    have h2 : (Int.gcd m w : Int) = g := hgd.symm
    have h3 : g.natAbs = Int.gcd m w := by omega
    rw [h3] at h1
    have h4 : 0 < Int.gcd m w := by omega
    exact Nat.eq_of_mul_eq_mul_left h4 (by omega)
theorem CoefQ.one {m w c v v' : Int} (hm : 0 < m) (h : CoefQ m w c v) (h' : CoefQ m w c v') : v = v' := by
  obtain ⟨g, a, b, hgd, hg, ha, hb, e1, e2, ha0, hco⟩ := gc_parts (w := w) hm
  have l1 := h.lt
  have l2 := h'.lt
  rw [← hgd, e1] at l1 l2
  have n1 := h.nn
  have n2 := h'.nn
  obtain ⟨k, hk⟩ := h.cg.trans h'.cg.symm
  have h3 : (v - v') * b = a * k := by
    have : g * ((v - v') * b) = g * (a * k) := by
      have e3 : v * w - v' * w = m * k := hk
      rw [ha, hb] at e3
      grind
    exact Int.eq_of_mul_eq_mul_left (by omega) this
  have h4 : a ∣ (v - v') * b := ⟨k, h3⟩
  have h5 : a ∣ v - v' := by
    have h6 : a.natAbs ∣ (v - v').natAbs * b.natAbs := by
      rw [← Int.natAbs_mul]
      exact Int.natAbs_dvd_natAbs.mpr h4
    have h7 : Nat.Coprime a.natAbs b.natAbs := hco
    exact Int.natAbs_dvd_natAbs.mp (h7.dvd_of_dvd_mul_right h6)
  obtain ⟨q, hq⟩ := h5
  have q0 : q = 0 := by
    rcases Int.lt_trichotomy q 0 with z | z | z
    · have : a * q ≤ a * (-1) := Int.mul_le_mul_of_nonneg_left (by omega) (by omega)
      omega
    · exact z
    · have : a * 1 ≤ a * q := Int.mul_le_mul_of_nonneg_left (by omega) (by omega)
      omega
  rw [q0, Int.mul_zero] at hq
  omega
theorem CoefQ.dvd {m w c v : Int} (hm : 0 < m) (h : Cg m (v * w) c) : gcI m w ∣ c := by
  obtain ⟨k, hk⟩ := h
  have h1 : gcI m w ∣ m := Int.gcd_dvd_left ..
  have h2 : gcI m w ∣ w := Int.gcd_dvd_right ..
  have e : c = v * w - m * k := by omega
  rw [e]
  exact Int.dvd_sub (Int.dvd_mul_of_dvd_right h2) (Int.dvd_mul_of_dvd_left h1)
theorem CoefQ.make {m w c t : Int} (hm : 0 < m) (hc : gcI m w ∣ c) (ht : Cg (m.fdiv (gcI m w)) (t * w.fdiv (gcI m w)) 1 ∨ gcI m w = m) : CoefQ m w c ((c.fdiv (gcI m w) * t).fmod (m.fdiv (gcI m w))) := by
  obtain ⟨g, a, b, hgd, hg, ha, hb, e1, e2, ha0, hco⟩ := gc_parts (w := w) hm
  rw [← hgd] at hc ht ⊢
  rw [e1, e2] at ht
  rw [e1]
  obtain ⟨d, hd⟩ := hc
  have e3 : c.fdiv g = d := by
    rw [Int.fdiv_eq_ediv_of_nonneg _ (by omega)]
    exact Int.ediv_eq_of_eq_mul_right (by omega) hd
  rw [e3]
  refine ⟨Int.fmod_nonneg_of_pos _ ha0, by rw [← hgd, e1]; exact Int.fmod_lt_of_pos _ ha0, ?_⟩
  have h1 : Cg a ((d * t).fmod a * b) d := by
    rcases ht with ht | ht
    · refine ((Cg.fmod a (d * t)).mul (Cg.refl a b)).trans ?_
      have e4 : d * t * b = d * (t * b) := Int.mul_assoc ..
      rw [e4]
      have := (Cg.refl a d).mul ht
      rwa [Int.mul_one] at this
    · have a1 : a = 1 := by
        have : g * a = g * 1 := by omega
        exact Int.eq_of_mul_eq_mul_left (by omega) this
      rw [a1]
      exact ⟨_, (Int.one_mul _).symm⟩
  obtain ⟨k, hk⟩ := h1
  refine ⟨k, ?_⟩
  rw [hd, hb, ha]
  have e5 : (d * t).fmod a * (g * b) - g * d = g * ((d * t).fmod a * b - d) := by grind
  rw [e5, hk]
  grind
end Ev
end
section
namespace Ev
open PySem
theorem lay_sh {d : D} (h : SeqAt.shaped d = true) : d.canLay0 = true := SeqAt.canLay_of_shaped h
theorem c_eqSelf {d : D} (h : SeqAt.shaped d = true) : cmpD .eq d d = some true := by
  show (if SeqAt.shaped d = true ∧ SeqAt.shaped d = true then some (PyData.eqv d d) else none) = _
  rw [if_pos ⟨h, h⟩, SeqAt.eqv_refl d (lay_sh h)]
theorem c_neSelf {d : D} (h : SeqAt.shaped d = true) : cmpD .ne d d = some false := by
  show (if SeqAt.shaped d = true ∧ SeqAt.shaped d = true then some (!PyData.eqv d d) else none) = _
  rw [if_pos ⟨h, h⟩, SeqAt.eqv_refl d (lay_sh h)]
  rfl
theorem sh_TsT (rows : List (List Int)) : SeqAt.shaped (.tuple (Ts rows)) = true := by
  obtain ⟨h1, h2⟩ := sh_Ts rows
  unfold SeqAt.shaped
  rw [show PyData.canLay0 (.tuple (Ts rows)) = true from h1]
  simp [PyData.depth]
  omega
theorem eqvZ : ∀ a b : List Int, PyData.eqvAll (Zs a) (Zs b) = decide (a = b)
  | [], [] => rfl
  | [], _ :: _ => rfl
  | _ :: _, [] => rfl
  | x :: a, y :: b => by
    show (PyData.eqv (.int x) (.int y) && PyData.eqvAll (Zs a) (Zs b)) = _
    rw [eqvZ a b]
    show ((x == y) && decide (a = b)) = _
    by_cases h : x = y
    · subst h
      by_cases k : a = b
      · subst k; simp
      · simp [k]
    · simp [h]
theorem eqvT : ∀ a b : List (List Int), PyData.eqvAll (Ts a) (Ts b) = decide (a = b)
  | [], [] => rfl
  | [], _ :: _ => rfl
  | _ :: _, [] => rfl
  | x :: a, y :: b => by
    show (PyData.eqv (.tuple (Zs x)) (.tuple (Zs y)) && PyData.eqvAll (Ts a) (Ts b)) = _
    rw [eqvT a b]
    show (PyData.eqvAll (Zs x) (Zs y) && decide (a = b)) = _
    rw [eqvZ]
    by_cases h : x = y
    · subst h
      by_cases k : a = b
      · subst k; simp
      · simp [k]
    · simp [h]
theorem c_eqTT (a b : List (List Int)) : cmpD .eq (.tuple (Ts a)) (.tuple (Ts b)) = some (decide (a = b)) := by
  show (if SeqAt.shaped (.tuple (Ts a)) = true ∧ SeqAt.shaped (.tuple (Ts b)) = true then some (PyData.eqv (.tuple (Ts a)) (.tuple (Ts b))) else none) = _
  rw [if_pos ⟨sh_TsT a, sh_TsT b⟩]
  exact congrArg some (eqvT a b)
theorem c_neTs (a b : List (List Int)) : cmpD .ne (.tuple (Ts a)) (.tuple (Ts b)) = some (!decide (a = b)) := by
  show (if SeqAt.shaped (.tuple (Ts a)) = true ∧ SeqAt.shaped (.tuple (Ts b)) = true then some (!PyData.eqv (.tuple (Ts a)) (.tuple (Ts b))) else none) = _
  rw [if_pos ⟨sh_TsT a, sh_TsT b⟩]
  exact congrArg (fun x => some (!x)) (eqvT a b)
theorem cut_Ts (a : List (List Int)) (lo hi : Option Int) : cutD (Ts a) lo hi = Ts ((a.drop (HT.sIx a.length 0 lo)).take (HT.sIx a.length a.length hi - HT.sIx a.length 0 lo)) := by
  unfold cutD
  simp [List.map_take, List.map_drop]
/-- truths as data -/
abbrev Bs (bs : List Bool) : List D := bs.map PyData.bool
theorem lay_Bs : ∀ bs : List Bool, PyData.canLayAll0 (Bs bs) = true
  | [] => rfl
  | b :: bs => by
    show (PyData.canLay0 (.bool b) && PyData.canLayAll0 (Bs bs)) = true
    rw [lay_Bs bs]
    rfl
theorem dep_Bs : ∀ bs : List Bool, PyData.depthAll (Bs bs) ≤ 1
  | [] => by decide
  | b :: bs => by
    have := dep_Bs bs
    show max (PyData.depth (.bool b)) (PyData.depthAll (Bs bs)) ≤ 1
    have h : PyData.depth (.bool b) = 0 := rfl
    omega
theorem sh_Bs (bs : List Bool) : SeqAt.shaped (.list (Bs bs)) = true := by
  have := dep_Bs bs
  unfold SeqAt.shaped
  rw [show PyData.canLay0 (.list (Bs bs)) = true from lay_Bs bs]
  simp [PyData.depth]
  omega
theorem inD_bs (b : Bool) : ∀ bs : List Bool, inD (.bool b) (Bs bs) = bs.any (· == b)
  | [] => rfl
  | c :: bs => by
    show (PyData.eqv (.bool c) (.bool b) || inD (.bool b) (Bs bs)) = _
    rw [inD_bs b bs]
    rfl
theorem c_inB (b : Bool) (bs : List Bool) : cmpD .inn (.bool b) (.list (Bs bs)) = some (bs.any (· == b)) := by
  show (if SeqAt.shaped (.bool b) = true ∧ SeqAt.shaped (.list (Bs bs)) = true then some (inD (.bool b) (Bs bs)) else none) = _
  rw [if_pos ⟨by cases b <;> rfl, sh_Bs bs⟩, inD_bs]
@[simp] theorem c_isB {a b : Bool} : cmpD .isN (.bool a) (.bool b) = some (a == b) := rfl
@[simp] theorem c_notB {a b : Bool} : cmpD .notN (.bool a) (.bool b) = some (!(a == b)) := rfl
theorem any_false {T : Type} (p : T → Bool) (l : List T) : (l.map p).any (· == false) = !l.all p := by
  induction l with
  | nil => rfl
  | cons a l ih =>
    rw [List.map_cons, List.any_cons, List.all_cons, ih]
    cases p a <;> rfl
end Ev
namespace Ev
open PySem
/-- what is nought everywhere, drawn -/
structure NullQ (cs : List Int) (m : Int) (most : Nat) (sp : Int) (s : Sl) (fin : List Sl) : Prop where
  ex : ∃ Z T sp' h', s = .imm (.tuple (Ts Z)) ∧ fin = [.own (tapeD cs sp' h'), .imm .none, .imm .none] ∧ Is2 m Z (Al.F2 m T) (most + 1) (most + 1) ∧ (∀ i j, topI m i j ∣ co2 T i j) ∧ sp ≤ sp' ∧ sp' ≤ sp + 200 ∧ 0 ≤ h'
theorem co2_snoc {T : List (List Int)} {r : List Int} (i j : Nat) : co2 (T ++ [r]) i j = if i < T.length then co2 T i j else if i = T.length then co r j else 0 := by
  unfold co2
  by_cases h : i < T.length
  · rw [if_pos h]
    have e1 : ro (T ++ [r]) i = ro T i := by unfold ro; simp [List.getElem?_append_left h]
    rw [e1]
  · rw [if_neg h]
    by_cases h2 : i = T.length
    · rw [if_pos h2]
      have e1 : ro (T ++ [r]) i = r := by unfold ro; rw [List.getD_eq_getElem?_getD, List.getElem?_append_right (by omega)]; simp [h2]
      rw [e1]
    · rw [if_neg h2, ro_ge (by simp; omega), co_nil]
end Ev
namespace Ev
open PySem
def diffI (L : List Int) : List Int := (List.range (L.length - 1)).map fun k => co L (k + 1) - co L k
def firstsN : Nat → List Int → List Int
  | 0, _ => []
  | n + 1, L => L.headD 0 :: firstsN n (diffI L)
theorem diffI_len (L : List Int) : (diffI L).length = L.length - 1 := by simp [diffI]
theorem firstsN_len : ∀ (n : Nat) (L : List Int), (firstsN n L).length = n
  | 0, _ => rfl
  | n + 1, L => congrArg (· + 1) (firstsN_len n _)
end Ev
namespace Ev
open PySem
theorem ix_last {n : Nat} : L2.ixN (n + 1) (-1) = some n := by
  unfold L2.ixN
  rw [if_neg (by decide), if_pos (by omega)]
  congr 1
  omega
/-- a square's differences, along and down -/
def cornerC (Q : List (List Int)) : List (List Int) := (List.range Q.length).map fun j => firstsN Q.length (colI (Q.map (firstsN Q.length)) j)
/-- the coefficients of a square -/
structure CornQ (m : Int) (Q V : List (List Int)) : Prop where
  len : V.length = Q.length
  row : ∀ r ∈ V, r.length = Q.length
  co : ∀ i j, i < Q.length → j < Q.length → CoefQ m (facI i * facI j) (co (ro (cornerC Q) j) i) (co2 V i j)
inductive CornS (m : Int) (Q : List (List Int)) (s : Sl) : Prop
  | some (V B : List (List Int)) (e : s = .imm (.tuple (Ts B))) (h : Is2 m B (Al.F2 m V) 100 100) (q : CornQ m Q V)
  | none (i j : Nat) (e : s = .imm .none) (hi : i < Q.length) (hj : j < Q.length) (h : ¬ gcI m (facI i * facI j) ∣ co (ro (cornerC Q) j) i)
end Ev
namespace Ev
open PySem
theorem c_eqLE (r : List Int) : cmpD .eq (.list (Zs r)) (.list []) = some r.isEmpty := by
  show (if SeqAt.shaped (.list (Zs r)) = true ∧ SeqAt.shaped (.list []) = true then some (PyData.eqv (.list (Zs r)) (.list [])) else none) = _
  rw [if_pos ⟨sh_ZsL r, by decide⟩]
  cases r <;> rfl
end Ev
namespace Ev
open PySem
def valI (m : Int) (A : List (List Int)) (x y : Int) : Int := (evZ x (A.map (evZ y))).fmod m
def valsI (m : Int) (A : List (List Int)) : List (List Int) := (List.range m.toNat).map fun (x : Nat) => (List.range m.toNat).map fun (y : Nat) => valI m A x y
theorem valI_of {m v x y : Int} (hm : 0 < m) {A : List (List Int)} (v0 : 0 ≤ v) (v1 : v < m) (h : (Al.at2 (Al.mk m x) (Al.mk m y)).f (Al.ofR m A) = Al.mk m v) : v = valI m A x y := by
  rw [Al.at2_ofR] at h
  have := (Al.mk_eq.mp h).eq hm
  rw [fmod_small v0 v1] at this
  exact this.symm
end Ev
namespace Ev
open PySem
def cutQ (k : Nat) (W : List (List Int)) : List (List Int) := (W.take k).map fun r => r.take k
/-- the least POLY2 with these values, where there is one -/
inductive PolyS (m : Int) (W : List (List Int)) (s : Sl) : Prop
  | none (k i j : Nat) (hk : IsHigh m k) (e : s = .imm .none) (hi : i < (cutQ k W).length) (hj : j < (cutQ k W).length) (h : ¬ gcI m (facI i * facI j) ∣ co (ro (cornerC (cutQ k W)) j) i)
  | bad (k : Nat) (V B : List (List Int)) (hk : IsHigh m k) (e : s = .imm .none) (h : Is2 m B (Al.F2 m V) 100 100) (q : CornQ m (cutQ k W) V) (n : valsI m B ≠ W)
  | good (k : Nat) (V B : List (List Int)) (hk : IsHigh m k) (e : s = .imm (.tuple (Ts B))) (h : Is2 m B (Al.F2 m V) 100 100) (q : CornQ m (cutQ k W) V) (n : valsI m B = W)
theorem CornQ.same {m : Int} (hm : 0 < m) {Q V V' : List (List Int)} (h : CornQ m Q V) (h' : CornQ m Q V') (i j : Nat) : co2 V i j = co2 V' i j := by
  have z : ∀ {U : List (List Int)}, CornQ m Q U → (¬ i < Q.length ∨ ¬ j < Q.length) → co2 U i j = 0 := fun {U} hU q => by
    unfold co2
    by_cases e : ro U i = []
    · rw [e, co_nil]
    · have h1 := hU.row _ (ro_mem e)
      have h2 : ¬ U.length ≤ i := fun y => e (ro_ge y)
      have h3 := hU.len
      rw [co_ge]
      omega
  by_cases hi : i < Q.length
  · by_cases hj : j < Q.length
    · exact (h.co i j hi hj).one hm (h'.co i j hi hj)
    · rw [z h (.inr hj), z h' (.inr hj)]
  · rw [z h (.inl hi), z h' (.inl hi)]
theorem CornQ.poly {m : Int} (hm : 0 < m) {Q V V' B B' : List (List Int)} {a b c d : Nat} (h : CornQ m Q V) (h' : CornQ m Q V') (k : Is2 m B (Al.F2 m V) a b) (k' : Is2 m B' (Al.F2 m V') c d) : B = B' := by
  have e : Al.F2 m V = Al.F2 m V' := Al.F2_eq hm fun i j => Cg.of_eq (h.same hm h' i j)
  rw [e] at k
  exact k.eq hm k'
theorem PolyS.eq {m : Int} (hm : 0 < m) {W : List (List Int)} {s s' : Sl} (h : PolyS m W s) (h' : PolyS m W s') : s = s' := by
  have no : ∀ {k k' i j : Nat} {V : List (List Int)}, IsHigh m k → IsHigh m k' → i < (cutQ k W).length → j < (cutQ k W).length → ¬ gcI m (facI i * facI j) ∣ co (ro (cornerC (cutQ k W)) j) i → CornQ m (cutQ k' W) V → False := fun {k k' i j V} h1 h2 hi hj hn hq => by
    obtain rfl := h1.eq h2
    exact hn (CoefQ.dvd hm (hq.co i j hi hj).cg)
  cases h with
  | none k i j hk e hi hj hn =>
    cases h' with
    | none _ _ _ _ e' _ _ _ => rw [e, e']
    | bad k' V B hk' e' h q n => rw [e, e']
    | good k' V B hk' e' h q n => exact (no hk hk' hi hj hn q).elim
  | bad k V B hk e h q n =>
    cases h' with
    | none _ _ _ _ e' _ _ _ => rw [e, e']
    | bad k' V' B' hk' e' h' q' n' => rw [e, e']
    | good k' V' B' hk' e' h' q' n' =>
      obtain rfl := hk.eq hk'
      obtain rfl := q.poly hm q' h h'
      exact (n n').elim
  | good k V B hk e h q n =>
    cases h' with
    | none k' i j hk' e' hi hj hn => exact (no hk' hk hi hj hn q).elim
    | bad k' V' B' hk' e' h' q' n' =>
      obtain rfl := hk.eq hk'
      obtain rfl := q.poly hm q' h h'
      exact (n' n).elim
    | good k' V' B' hk' e' h' q' n' =>
      obtain rfl := hk.eq hk'
      obtain rfl := q.poly hm q' h h'
      rw [e, e']
end Ev
end
section
namespace Al
open Lean.Grind Ev Poly
def binI : Nat → Nat → Int
  | _, 0 => 1
  | 0, _ + 1 => 0
  | n + 1, k + 1 => binI n k + binI n (k + 1)
def falI (x : Int) : Nat → Int
  | 0 => 1
  | k + 1 => falI x k * (x - (k : Int))
theorem falI_succ (x : Int) : ∀ k : Nat, falI (x + 1) (k + 1) = (x + 1) * falI x k
  | 0 => by
    show 1 * (x + 1 - ((0 : Nat) : Int)) = (x + 1) * 1
    simp
  | k + 1 => by
    show falI (x + 1) (k + 1) * (x + 1 - ((k + 1 : Nat) : Int)) = (x + 1) * (falI x k * (x - (k : Int)))
    rw [falI_succ x k, show x + 1 - ((k + 1 : Nat) : Int) = x - (k : Int) by omega, Int.mul_assoc]
theorem falI_zero : ∀ k : Nat, falI 0 (k + 1) = 0
  | 0 => by
    show 1 * (0 - ((0 : Nat) : Int)) = 0
    simp
  | k + 1 => by
    show falI 0 (k + 1) * _ = 0
    rw [falI_zero k, Int.zero_mul]
theorem falI_bin : ∀ n k : Nat, falI (n : Int) k = facI k * binI n k
  | _, 0 => by
    show (1 : Int) = 1 * _
    unfold binI
    omega
  | 0, k + 1 => by
    show falI 0 (k + 1) = _ * 0
    rw [falI_zero, Int.mul_zero]
  | n + 1, k + 1 => by
    have h1 := falI_bin n k
    have h2 := falI_bin n (k + 1)
    have e2 : falI (n : Int) (k + 1) = falI (n : Int) k * ((n : Int) - (k : Int)) := rfl
    have e3 : facI (k + 1) = facI k * ((k : Int) + 1) := rfl
    have e4 : binI (n + 1) (k + 1) = binI n k + binI n (k + 1) := rfl
    rw [show ((n + 1 : Nat) : Int) = (n : Int) + 1 by omega, falI_succ, e4]
    grind
theorem binI_gt : ∀ n k : Nat, n < k → binI n k = 0
  | 0, 0, h => absurd h (by omega)
  | 0, k + 1, _ => rfl
  | n + 1, 0, h => absurd h (by omega)
  | n + 1, k + 1, h => by
    show binI n k + binI n (k + 1) = 0
    rw [binI_gt n k (by omega), binI_gt n (k + 1) (by omega)]
    rfl
theorem binI_self : ∀ n : Nat, binI n n = 1
  | 0 => rfl
  | n + 1 => by
    show binI n n + binI n (n + 1) = 1
    rw [binI_self n, binI_gt n (n + 1) (by omega)]
    rfl
variable {m : Int}
theorem at2_X2 (x y : Int) : (at2 (mk m x) (mk m y)).f X2 = mk m x := by
  have e : (X2 : Poly (Poly (Zm m))) = ofR m [[], [1]] := Poly.ext fun i => by
    show (if i = 1 then (1 : Poly (Zm m)) else 0) = ofL m (ro [[], [1]] i)
    match i with
    | 0 => rw [if_neg (by omega), show ro [[], [1]] 0 = ([] : List Int) from rfl, ofL_nil]
    | 1 => rw [if_pos rfl, show ro [[], [1]] 1 = ([1] : List Int) from rfl, ofL_one]; rfl
    | i + 2 => rw [if_neg (by omega), ro_ge (by show 2 ≤ i + 2; omega), ofL_nil]
  rw [e, at2_ofR]
  congr 1
  simp [evZ_cons, evZ_nil]
theorem at2_Y2 (x y : Int) : (at2 (mk m x) (mk m y)).f Y2 = mk m y := by
  have e : (Y2 : Poly (Poly (Zm m))) = ofR m [[0, 1]] := Poly.ext fun i => by
    show (if i = 0 then (X1 : Poly (Zm m)) else 0) = ofL m (ro [[0, 1]] i)
    match i with
    | 0 =>
      rw [if_pos rfl, show ro [[0, 1]] 0 = ([0, 1] : List Int) from rfl]
      refine Poly.ext fun j => ?_
      show (if j = 1 then (1 : Zm m) else 0) = mk m (co [0, 1] j)
      match j with
      | 0 => rfl
      | 1 => rfl
      | j + 2 => rw [if_neg (by omega), co_ge (by show 2 ≤ j + 2; omega)]; rfl
    | i + 1 => rw [if_neg (by omega), ro_ge (by show 1 ≤ i + 1; omega), ofL_nil]
  rw [e, at2_ofR]
  congr 1
  simp [evZ_cons, evZ_nil]
theorem fal_mk {c : Cst m (Zm m)} (hc : ∀ a, c.f a = mk m a) (x : Int) : ∀ k : Nat, fal c (mk m x) k = mk m (falI x k)
  | 0 => rfl
  | k + 1 => by
    show fal c (mk m x) k * (mk m x - c.f (k : Int)) = mk m (falI x k * (x - (k : Int)))
    rw [fal_mk hc x k, hc, Zm.mk_mul, Zm.mk_sub]
theorem at2_F2 (x y : Int) {T : List (List Int)} {h w : Nat} (hh : T.length ≤ h) (hw : ∀ r ∈ T, r.length ≤ w) : (at2 (mk m x) (mk m y)).f (F2 m T) = gs h fun i => gs w fun j => mk m (co2 T i j * (falI x i * falI y j)) := by
  rw [← F2_more hh hw]
  unfold nw2
  rw [Hom.sum]
  refine gs_congr fun i _ => ?_
  rw [Hom.sum]
  refine gs_congr fun j _ => ?_
  have hc : ∀ a, ((cC m).to (at2 (mk m x) (mk m y))).f a = mk m a := fun a => by
    show (at2 (mk m x) (mk m y)).f (cc m a) = _
    exact at2_cc ..
  rw [Hom.mul, Hom.mul, hom_fal, hom_fal, at2_X2, at2_Y2, fal_mk hc, fal_mk hc, cC_cc, at2_cc, Zm.mk_mul, Zm.mk_mul]
theorem mk_zero_iff {a : Int} : mk m a = 0 ↔ m ∣ a := by
  rw [show (0 : Zm m) = mk m 0 from rfl, mk_eq]
  constructor
  · rintro ⟨k, h⟩
    exact ⟨k, by omega⟩
  · rintro ⟨k, h⟩
    exact ⟨k, by omega⟩
theorem top_fac {m : Int} (hm : 0 < m) (i j : Nat) {a : Int} (h : topI m i j ∣ a) : m ∣ a * (facI i * facI j) := by
  obtain ⟨q, rfl⟩ := h
  obtain ⟨g, hg⟩ : gcI m (facI i * facI j) ∣ facI i * facI j := Int.gcd_dvd_right ..
  have e := top_mul hm i j
  refine ⟨q * g, ?_⟩
  have e2 : topI m i j * q * (facI i * facI j) = topI m i j * gcI m (facI i * facI j) * (q * g) := by
    rw [show topI m i j * q * (facI i * facI j) = topI m i j * q * (gcI m (facI i * facI j) * g) by rw [← hg]]
    grind
  rw [e2, e]
theorem fac_top {m : Int} (hm : 0 < m) (i j : Nat) {a : Int} (h : m ∣ a * (facI i * facI j)) : topI m i j ∣ a := by
  obtain ⟨g, p, q, hgd, hg, ha, hb, e1, e2, ha0, hco⟩ := gc_parts (w := facI i * facI j) hm
  unfold topI
  rw [← hgd, e1]
  obtain ⟨k, hk⟩ := h
  have h3 : a * q = p * k := by
    have : g * (a * q) = g * (p * k) := by
      rw [hb] at hk
      rw [ha] at hk
      grind
    exact Int.eq_of_mul_eq_mul_left (by omega) this
  have h4 : p ∣ a * q := ⟨k, h3⟩
  have h6 : p.natAbs ∣ a.natAbs * q.natAbs := by
    rw [← Int.natAbs_mul]
    exact Int.natAbs_dvd_natAbs.mpr h4
  have h7 : Nat.Coprime p.natAbs q.natAbs := hco
  exact Int.natAbs_dvd_natAbs.mp (h7.dvd_of_dvd_mul_right h6)
/-- what tops divide is nought everywhere -/
theorem nought_of {m : Int} (hm : 0 < m) {T : List (List Int)} (h : ∀ i j, topI m i j ∣ co2 T i j) (x y : Nat) : (at2 (mk m (x : Int)) (mk m (y : Int))).f (F2 m T) = 0 := by
  rw [at2_F2 (x : Int) (y : Int) (Nat.le_refl _) fun r hr => wid_row hr]
  refine gs_zero fun i _ => gs_zero fun j _ => ?_
  rw [mk_zero_iff, falI_bin, falI_bin]
  have h1 := top_fac hm i j (h i j)
  obtain ⟨k, hk⟩ := h1
  exact ⟨k * (binI x i * binI y j), by grind⟩
/-- .. and nothing else -/
theorem of_nought {m : Int} (hm : 0 < m) {T : List (List Int)} (h : ∀ x y : Nat, (at2 (mk m (x : Int)) (mk m (y : Int))).f (F2 m T) = 0) : ∀ i j, topI m i j ∣ co2 T i j := by
  have key : ∀ n i j, i + j = n → m ∣ co2 T i j * (facI i * facI j) := by
    intro n
    induction n using Nat.strongRecOn with
    | _ n ih =>
      intro i j hn
      have e := h i j
      rw [at2_F2 (i : Int) (j : Int) (h := max T.length (i + 1)) (w := max (widI T).toNat (j + 1)) (by omega) fun r hr => by have := wid_row hr; omega] at e
      have z : ∀ a b, (a ≠ i ∨ b ≠ j) → mk m (co2 T a b * (falI (i : Int) a * falI (j : Int) b)) = 0 := fun a b hab => by
        rw [mk_zero_iff, falI_bin, falI_bin]
        by_cases h1 : i < a
        · rw [binI_gt i a h1]
          exact ⟨0, by simp⟩
        by_cases h2 : j < b
        · rw [binI_gt j b h2]
          exact ⟨0, by simp⟩
        obtain ⟨k, hk⟩ := ih (a + b) (by omega) a b rfl
        exact ⟨k * (binI i a * binI j b), by grind⟩
      rw [gs_one (k := i) (by omega) fun a _ ha => gs_zero fun b _ => z a b (.inl ha), gs_one (k := j) (by omega) fun b _ hb => z i b (.inr hb), mk_zero_iff, falI_bin, falI_bin, binI_self, binI_self, Int.mul_one, Int.mul_one] at e
      exact e
  exact fun i j => fac_top hm i j (key _ i j rfl)
end Al
end
section
namespace Ev
open PySem
theorem cut_to (xs : List D) (k : Nat) : cutD xs none (some (k : Int)) = xs.take k := by
  unfold cutD
  rw [HT.sIx_none, HT.sIx_nat, List.drop_zero, Nat.sub_zero]
  by_cases h : k ≤ xs.length
  · rw [Nat.min_eq_left h]
  · rw [Nat.min_eq_right (by omega), List.take_of_length_le (Nat.le_refl _), List.take_of_length_le (by omega)]
theorem cut_from (xs : List D) (k : Nat) : cutD xs (some (k : Int)) none = xs.drop k := by
  unfold cutD
  rw [HT.sIx_none, HT.sIx_nat]
  by_cases h : k ≤ xs.length
  · rw [Nat.min_eq_left h, List.take_of_length_le (by simp)]
  · rw [Nat.min_eq_right (by omega), Nat.sub_self, List.take_zero, List.drop_eq_nil_of_le (by omega)]
theorem cut_from1 (xs : List D) (k : Nat) : cutD xs (some ((k : Int) + 1)) none = xs.drop (k + 1) := cut_from xs (k + 1)
theorem cut_mid (xs : List D) (a b : Nat) : cutD xs (some (a : Int)) (some (b : Int)) = (xs.drop a).take (b - a) := by
  unfold cutD
  rw [HT.sIx_nat, HT.sIx_nat]
  by_cases h : a ≤ xs.length
  · rw [Nat.min_eq_left h]
    by_cases h2 : b ≤ xs.length
    · rw [Nat.min_eq_left h2]
    · rw [Nat.min_eq_right (by omega), List.take_of_length_le (by simp), List.take_of_length_le (by simp; omega)]
  · rw [Nat.min_eq_right (a := a) (by omega), List.drop_eq_nil_of_le (Nat.le_refl _), List.drop_eq_nil_of_le (show xs.length ≤ a by omega)]
    simp
theorem any_not {T : Type} (p : T → Bool) (l : List T) : (l.map fun j => !(p j)).any id = !l.all p := by
  induction l with
  | nil => rfl
  | cons a l ih =>
    rw [List.map_cons, List.any_cons, List.all_cons, ih]
    cases p a <;> rfl
theorem cutQ_len {k : Nat} {W : List (List Int)} (h : k ≤ W.length) : (cutQ k W).length = k := by
  simp [cutQ]
  omega
theorem cutQ_row {k w : Nat} {W : List (List Int)} (h : ∀ r ∈ W, r.length = w) (hk : k ≤ w) : ∀ r ∈ cutQ k W, r.length = k := fun r hr => by
  obtain ⟨r', h', rfl⟩ := List.mem_map.mp hr
  have := h r' (List.mem_of_mem_take h')
  simp
  omega
def rowEq (m : Int) (B W : List (List Int)) (x : Nat) : Bool := (List.range m.toNat).all fun (y : Nat) => valI m B x y == co2 W x y
theorem rowEq_all {m : Int} {B W : List (List Int)} (hl : W.length = m.toNat) (hr : ∀ r ∈ W, r.length = m.toNat) : valsI m B = W ↔ ∀ x, x < m.toNat → rowEq m B W x = true := by
  constructor
  · intro h x hx
    refine List.all_eq_true.mpr fun y hy => ?_
    have hy : y < m.toNat := List.mem_range.mp hy
    rw [← h]
    simp [co2, ro, co, valsI, hx, hy]
  · intro h
    refine List.ext_getElem (by simp [valsI, hl]) fun x h1 h2 => ?_
    have hx : x < m.toNat := by omega
    have hrl := hr _ (List.getElem_mem h2)
    refine List.ext_getElem (by simp [valsI, hrl]) fun y h3 h4 => ?_
    have hy : y < m.toNat := by omega
    have := List.all_eq_true.mp (h x hx) y (List.mem_range.mpr hy)
    have e : valI m B x y = co2 W x y := by simpa using this
    have e2 : co2 W x y = W[x][y] := by
      unfold co2 ro co
      simp [h2, h4]
    have e3 : (valsI m B)[x][y] = valI m B x y := by simp [valsI]
    rw [e3]
    exact e.trans e2
theorem fitI2 {m : Int} (hm : 0 < m) (hm6 : m ≤ 1000000) {A : List (List Int)} {p : Al.Poly (Al.Poly (Al.Zm m))} {a b : Nat} (h : Is2 m A p a b) (ha : a ≤ 200) (hb : b ≤ 200) : Fit 2 3000000 (.tuple (Ts A)) := by
  refine (fitT (l := 200) (w := 200) hm6 (fun r hr => ⟨h.red.bdr hm hr, by have := h.lb r hr; omega⟩) (by have := h.la; omega)).mono (by omega) (by omega)
theorem PolyS.fit {m : Int} (hm : 0 < m) (hm6 : m ≤ 1000000) {W : List (List Int)} {s : Sl} (h : PolyS m W s) : ∃ d, s = .imm d ∧ Fit 2 3000000 d := by
  cases h with
  | none k i j hk e hi hj h => exact ⟨_, e, Fit.non.mono (by omega) (by omega)⟩
  | bad k V B hk e h q n => exact ⟨_, e, Fit.non.mono (by omega) (by omega)⟩
  | good k V B hk e h q n => exact ⟨_, e, fitI2 hm hm6 h (by omega) (by omega)⟩
theorem rep_1 (d : D) : binD .mul (.list [d]) (.int 1) = some (.own (.list [d])) := rfl
theorem rep_0 (d : D) : binD .mul (.list [d]) (.int 0) = some (.own (.list [])) := rfl
theorem add_LL {xs ys : List D} (h : xs.length + ys.length ≤ lim) : binD .add (.list xs) (.list ys) = some (.own (.list (xs ++ ys))) := if_pos h
theorem add_TT {xs ys : List D} (h : xs.length + ys.length ≤ lim) : binD .add (.tuple xs) (.tuple ys) = some (.imm (.tuple (xs ++ ys))) := if_pos h
theorem fmod_dvd {a b : Int} (hb : 0 < b) : a.fmod b = 0 ↔ b ∣ a := by
  rw [Int.fmod_eq_emod_of_nonneg _ (by omega)]
  exact ⟨Int.dvd_of_emod_eq_zero, Int.emod_eq_zero_of_dvd⟩
theorem co2_gt {T : List (List Int)} {i j : Nat} (h : T.length ≤ i ∨ (ro T i).length ≤ j) : co2 T i j = 0 := by
  unfold co2
  rcases h with h | h
  · rw [ro_ge h, co_nil]
  · exact co_ge h
theorem nullB_iff {m : Int} (hm : 0 < m) {T : List (List Int)} : nullB m T = true ↔ ∀ i j, topI m i j ∣ co2 T i j := by
  constructor
  · intro h i j
    by_cases hi : i < T.length
    · by_cases hj : j < (ro T i).length
      · have h1 := List.all_eq_true.mp (List.all_eq_true.mp h i (List.mem_range.mpr hi)) j (List.mem_range.mpr hj)
        exact (fmod_dvd (top_pos hm i j)).mp (by simpa using h1)
      · rw [co2_gt (.inr (by omega))]
        exact Int.dvd_zero _
    · rw [co2_gt (.inl (by omega))]
      exact Int.dvd_zero _
  · intro h
    refine List.all_eq_true.mpr fun i _ => List.all_eq_true.mpr fun j _ => ?_
    have := (fmod_dvd (top_pos hm i j)).mpr (h i j)
    simpa using this
theorem null_at2 {m : Int} (hm : 0 < m) {A : List (List Int)} : nullB m (partsI m A) = true ↔ ∀ x y : Nat, (Al.at2 (Al.mk m (x : Int)) (Al.mk m (y : Int))).f (Al.ofR m A) = 0 := by
  rw [nullB_iff hm]
  constructor
  · intro h x y
    rw [← Al.F2_parts]
    exact Al.nought_of hm h x y
  · intro h
    exact Al.of_nought hm fun x y => by rw [Al.F2_parts]; exact h x y
theorem co2_set {T : List (List Int)} {I J : Nat} (hI : I < T.length) (hJ : J < (ro T I).length) (v : Int) (i j : Nat) : co2 (T.set I ((ro T I).set J v)) i j = if i = I ∧ j = J then v else co2 T i j := by
  unfold co2
  by_cases h : i = I
  · subst h
    have e : ro (T.set i ((ro T i).set J v)) i = (ro T i).set J v := by unfold ro; simp [hI]
    rw [e]
    by_cases h2 : j = J
    · subst h2
      rw [if_pos ⟨rfl, rfl⟩]
      unfold co
      rw [List.getD_eq_getElem?_getD, List.getElem?_set_self hJ]
      rfl
    · rw [if_neg fun z => h2 z.2]
      unfold co
      rw [List.getD_eq_getElem?_getD, List.getElem?_set_ne (Ne.symm h2), List.getD_eq_getElem?_getD]
  · rw [if_neg fun z => h z.1]
    have e : ro (T.set I ((ro T I).set J v)) i = ro T i := by unfold ro; simp [List.getElem?_set_ne (Ne.symm h)]
    rw [e]
theorem one_ne {m : Int} (hm : 1 < m) : Al.mk m 1 ≠ 0 := fun z => by
  have := Al.mk_zero_iff.mp z
  have := Int.le_of_dvd (by decide) this
  omega
/-- what is nought everywhere is not so when one is put to it -/
theorem null_one {m : Int} (hm : 1 < m) {A B : List (List Int)} (h : nullB m (partsI m A) = true) (e : Al.ofR m B = Al.ofR m A + Al.cc m 1 * Al.ofR m [[1]]) : nullB m (partsI m B) = false := by
  refine Bool.eq_false_iff.mpr fun z => ?_
  have h1 := (null_at2 (by omega)).mp h 0 0
  have h2 := (null_at2 (by omega)).mp z 0 0
  rw [e, Al.Hom.add, Al.Hom.mul, h1, Al.ofR_one, Al.at2_cc] at h2
  refine one_ne hm ?_
  have e1 : Al.mk m 1 = 1 := rfl
  rw [e1] at h2 ⊢
  grind
@[simp] theorem c_eqB {a b : Bool} : cmpD .eq (.bool a) (.bool b) = some (a == b) := by cases a <;> cases b <;> rfl
theorem leastI_co {m : Int} (T : List (List Int)) (i j : Nat) : co2 (leastI m T) i j = (co2 T i j).fmod (topI m i j) := by
  have e : ro (leastI m T) i = if i < T.length then (List.range (ro T i).length).map fun j => (co2 T i j).fmod (topI m i j) else [] := ro_rangeMap ..
  by_cases hi : i < T.length
  · by_cases hj : j < (ro T i).length
    · unfold co2
      rw [e, if_pos hi, co_rangeMap, if_pos hj]
    · rw [co2_gt (T := T) (.inr (by omega)), co2_gt (T := leastI m T) (.inr (by rw [e, if_pos hi, List.length_map, List.length_range]; omega))]
      simp
  · rw [co2_gt (T := T) (.inl (by omega)), co2_gt (T := leastI m T) (.inl (by simp [leastI]; omega))]
    simp
def tabI (h w : Nat) (f : Nat → Nat → Int) : List (List Int) := (List.range h).map fun i => (List.range w).map fun j => f i j
theorem tabI_co (h w : Nat) (f : Nat → Nat → Int) (i j : Nat) : co2 (tabI h w f) i j = if i < h ∧ j < w then f i j else 0 := by
  have e : ro (tabI h w f) i = if i < h then (List.range w).map fun j => f i j else [] := ro_rangeMap ..
  unfold co2
  rw [e]
  by_cases hi : i < h
  · rw [if_pos hi, co_rangeMap]
    by_cases hj : j < w
    · rw [if_pos hj, if_pos ⟨hi, hj⟩]
    · rw [if_neg hj, if_neg fun z => hj z.2]
  · rw [if_neg hi, if_neg fun z => hi z.1, co_nil]
theorem co2_wide {T : List (List Int)} {h w : Nat} (hh : T.length ≤ h) (hw : ∀ r ∈ T, r.length ≤ w) {i j : Nat} (q : ¬ (i < h ∧ j < w)) : co2 T i j = 0 := by
  by_cases hi : i < T.length
  · have := hw _ (Al.ro_inI hi)
    exact co2_gt (.inr (by omega))
  · exact co2_gt (.inl (by omega))
/-- what is nought everywhere does not change the least one -/
theorem least_null {m : Int} (hm : 0 < m) {P Q T : List (List Int)} (h : Al.F2 m Q = Al.F2 m P + Al.cc m 1 * Al.F2 m T) (hT : ∀ i j, topI m i j ∣ co2 T i j) : Al.F2 m (leastI m P) = Al.F2 m (leastI m Q) := by
  refine Al.F2_eq hm fun i j => Cg.of_eq ?_
  rw [leastI_co, leastI_co]
  obtain ⟨U, hU⟩ : ∃ U, ∀ i j, co2 U i j = co2 P i j + co2 T i j := by
    refine ⟨tabI (max P.length T.length) (max (widI P).toNat (widI T).toNat) fun i j => co2 P i j + co2 T i j, fun i j => ?_⟩
    rw [tabI_co]
    by_cases q : i < max P.length T.length ∧ j < max (widI P).toNat (widI T).toNat
    · rw [if_pos q]
    · rw [if_neg q, co2_wide (T := P) (by omega) (fun r hr => by have := wid_row hr; omega) q, co2_wide (T := T) (by omega) (fun r hr => by have := wid_row hr; omega) q]
      rfl
  have e := Al.F2_lin (U := U) (S := P) (T := T) (a := 1) hm fun i j => Cg.of_eq (by rw [hU]; omega)
  obtain ⟨k, hk⟩ := Al.F2_inj (e.trans h.symm) i j
  rw [hU] at hk
  obtain ⟨q, hq⟩ := hT i j
  obtain ⟨p, hp⟩ := top_dvd hm i j
  refine Cg.eq (top_pos hm i j) ⟨p * k - q, ?_⟩
  have e2 : m * k = topI m i j * (p * k) := by rw [← Int.mul_assoc, ← hp]
  rw [Int.mul_sub, ← e2, ← hq]
  omega
section
variable {sg : Sig} {call : Call} {pins : List Nat} {e : Env} {EX : Exn → Env → Prop}
/-- a walk, once it is known what is walked over -/
def FLW (EX : Exn → Env → Prop) (sg : Sig) (call : Call) (pins : List Nat) (tg body : C) (ds : List D) (e : Env) (Q : Fl → Env → Prop) : Prop := WPX EX (forLoop (fun x => do noEx ((den sg call pins tg).G x); (den sg call pins body).S) ds e) Q
theorem W_forI {tg it body : C} {Q : Fl → Env → Prop} (PP : List D → Env → Prop) (hi : WPX EX ((den sg call pins it).I e) PP) (k : ∀ ds e1, PP ds e1 → FLW EX sg call pins tg body ds e1 Q) : WPX EX ((den sg call pins (.forS tg it body)).S e) Q := by
  show WPX EX (((den sg call pins it).I >>= fun xs => forLoop (fun x => do noEx ((den sg call pins tg).G x); (den sg call pins body).S) xs) e) Q
  rw [W_bind]
  exact W_mono hi k
theorem W_forV {S T : Type} {tg body : C} (g : T → D) (l : List T) (E : S → Env) (I : Nat → S → Prop) (s0 : S) {Q : Fl → Env → Prop} (h0 : I 0 s0)
    (hs : ∀ i s (h : i < l.length), I i s → WPX NE ((den sg call pins tg).G (g l[i]) (E s)) (fun _ e1 => RSX EX sg call pins body (stepQ E (I (i + 1)) Q) e1)) (hq : ∀ s, I l.length s → Q .nx (E s)) : FLW EX sg call pins tg body (l.map g) (E s0) Q := by
  refine W_for g E (fun rest s => ∃ i, rest = l.drop i ∧ i ≤ l.length ∧ I i s) s0 ⟨0, rfl, Nat.zero_le _, h0⟩ ?_ ?_
  · rintro t rest s ⟨i, hr, hil, h⟩
    obtain ⟨hi, rfl, rfl⟩ := drop_step hr
    rw [W_bind, W_nx]
    refine W_mono (hs i s hi h) fun _ e1 h1 => W_mono (RS_iff.mp h1) fun fl e2 h2 => ?_
    cases fl with
    | nx =>
      obtain ⟨s', e3, h3⟩ := h2
      exact ⟨s', e3, i + 1, rfl, hi, h3⟩
    | ct =>
      obtain ⟨s', e3, h3⟩ := h2
      exact ⟨s', e3, i + 1, rfl, hi, h3⟩
    | bk => exact h2
    | rt s => exact h2
  · rintro s ⟨i, hr, hil, h⟩
    have := drop_end hr
    obtain rfl : i = l.length := by omega
    exact hq s h
end
end Ev
end
section
namespace Ev
open PySem
/-- what a call tells, an exception too -/
def wpFX (r : FR) (Q : Sl → List Sl → Prop) (X : Exn → List Sl → Prop) : Prop := match r with
  | .ok s fin => Q s fin
  | .ex x fin => X x fin
  | .bad => False
section
variable {sg : Sig} {call : Call} {pins : List Nat} {e : Env} {EX : Exn → Env → Prop}
theorem WFX_unS {ms : List Bool} {d : Def} {ss : List Sl} {Q : Sl → List Sl → Prop} {XF : Exn → List Sl → Prop} {r : FR} (e : r = runDef sg call ms d ss) (hl : (ss.length == ms.length) = true)
    (h : RSX (fun x e' => ∃ fin, finOf ms e' = some fin ∧ XF x fin) sg call (pinsOf ms 0) d.body (endQ ms Q) (ss.map some ++ List.replicate (d.slots - ss.length) none)) : wpFX r Q XF := by
  rw [e]
  have h := WPX_iff.mp (RS_iff.mp h)
  unfold runDef
  rw [if_pos (by simpa using hl)]
  generalize (den sg call (pinsOf ms 0) d.body).S _ = r at h
  cases r with
  | bad => exact h.elim
  | ex x e =>
    obtain ⟨fin, e1, q⟩ := h
    simp only [e1]
    exact q
  | ok f e =>
    cases f with
    | bk => exact h.elim
    | ct => exact h.elim
    | nx =>
      obtain ⟨fin, e1, q⟩ := h
      simp only [e1]
      exact q
    | rt s =>
      obtain ⟨fin, e1, q⟩ := h
      simp only [e1]
      exact q
theorem W_callX {f : Str} {ts : List TV} {ms : List Bool} {ss : List Sl} {e1 : Env} {Q : TV → Env → Prop} {QF : Sl → List Sl → Prop} {XF : Exn → List Sl → Prop} (hm : sg.modes.lookup f = some ms) (hp : pass pins ms ts e = .ok ss e1) (hc : wpFX (call f ss) QF XF)
    (k : ∀ s fin, QF s fin → WPX EX ((do back ms ts fin; no2 s; M.pure (TV.val s)) e1) Q) (kx : ∀ x fin, XF x fin → ∃ e', back ms ts fin e1 = .ok () e' ∧ EX x e') : WPX EX (callM sg call pins f ts e) Q := by
  refine WPX_iff.mpr ?_
  unfold callM
  rw [wpR_bind, wpR_lift]
  refine ⟨ms, hm, ?_⟩
  rw [wpR_bind, hp]
  show wpR (match call f ss with
    | .ok s fin => (do back ms ts fin; no2 s; M.pure (TV.val s)) e1
    | .ex x fin => (match back ms ts fin e1 with
      | .ok _ e' => .ex x e'
      | _ => .bad)
    | .bad => .bad) Q EX
  cases hr : call f ss with
  | bad =>
    rw [hr] at hc
    exact hc.elim
  | ok s fin =>
    rw [hr] at hc
    exact WPX_iff.mp (k s fin hc)
  | ex x fin =>
    rw [hr] at hc
    obtain ⟨e', h1, h2⟩ := kx x fin hc
    simp only [h1]
    exact h2
theorem W_rse {x : Str} {as : C} {Q : Fl → Env → Prop} (h : WPX EX (((den sg call pins as).A >>= fun ts => shareDs pins ts) e) (fun ds e1 => ∃ fs, sg.excs.lookup x = some fs ∧ fs.length = ds.length ∧ EX ⟨x, (fs.zip ds).reverse⟩ e1)) : WPX EX ((den sg call pins (.rse x as)).S e) Q := by
  show WPX EX (((den sg call pins as).A >>= fun ts => shareDs pins ts >>= fun ds => raiseM sg x ds) e) Q
  rw [W_bind] at h ⊢
  refine W_mono h fun ts e1 h1 => ?_
  rw [W_bind]
  refine W_mono h1 fun ds e2 h2 => ?_
  obtain ⟨fs, h3, h4, h5⟩ := h2
  refine WPX_iff.mpr ?_
  unfold raiseM
  simp only [h3, h4, if_true]
  exact h5
/-- what an exception of a try's body leads to -/
def tryX (EX : Exn → Env → Prop) (sg : Sig) (pins : List Nat) (c : Str) (j : Option Nat) (su : Hs) (Q : Fl → Env → Prop) (x : Exn) (e : Env) : Prop :=
  (exIs sg x.cls c = some true ∧ WPX EX (suiteM sg pins x j su e) Q) ∨ (exIs sg x.cls c = some false ∧ EX x e)
theorem W_try {body : C} {c : Str} {j : Option Nat} {su : Hs} {Q : Fl → Env → Prop} (h : RSX (tryX EX sg pins c j su Q) sg call pins body Q e) : WPX EX ((den sg call pins (.tryS body c j su)).S e) Q := by
  have h := WPX_iff.mp (RS_iff.mp h)
  refine WPX_iff.mpr ?_
  show wpR (tryM sg pins c j su (den sg call pins body).S e) Q EX
  unfold tryM
  cases hm : (den sg call pins body).S e with
  | ok fl e1 =>
    rw [hm] at h
    exact h
  | bad =>
    rw [hm] at h
    exact h.elim
  | ex x e1 =>
    rw [hm] at h
    rcases h with ⟨h1, h2⟩ | ⟨h1, h2⟩
    · simp only [h1]
      exact WPX_iff.mp h2
    · simp only [h1]
      exact h2
end
def restD (m : Int) : D → Bool
  | .int i => decide (0 ≤ i) && decide (i < m)
  | _ => false
theorem restD_iff {m : Int} {d : D} : restD m d = true ↔ ∃ i, d = .int i ∧ 0 ≤ i ∧ i < m := by
  cases d <;> simp [restD]
def rowD (m : Int) (w : Nat) : D → Bool
  | .tuple ds => decide (ds.length ≤ w) && ds.all (restD m)
  | _ => false
def tabD (m : Int) (w : Nat) : D → Bool
  | .tuple ds => decide (ds.length ≤ w) && ds.all (rowD m w)
  | _ => false
theorem rests_Zs {m : Int} : ∀ {ds : List D}, ds.all (restD m) = true → ∃ ns, ds = Zs ns ∧ Bd m ns
  | [], _ => ⟨[], rfl, fun _ h => nomatch h⟩
  | d :: ds, h => by
    rw [List.all_cons, Bool.and_eq_true] at h
    obtain ⟨i, rfl, h0, h1⟩ := restD_iff.mp h.1
    obtain ⟨ns, rfl, hb⟩ := rests_Zs h.2
    refine ⟨i :: ns, rfl, fun a ha => ?_⟩
    rcases List.mem_cons.mp ha with z | z
    · rw [z]; exact ⟨h0, h1⟩
    · exact hb a z
theorem Zs_rests {m : Int} {ns : List Int} (h : Bd m ns) : (Zs ns).all (restD m) = true := by
  refine List.all_eq_true.mpr fun d hd => ?_
  obtain ⟨i, hi, rfl⟩ := List.mem_map.mp hd
  have := h i hi
  exact restD_iff.mpr ⟨i, rfl, this.1, this.2⟩
theorem tab_Ts {m : Int} {w : Nat} : ∀ {ds : List D}, ds.all (rowD m w) = true → ∃ R : List (List Int), ds = Ts R ∧ ∀ r ∈ R, r.length ≤ w ∧ Bd m r
  | [], _ => ⟨[], rfl, fun _ h => nomatch h⟩
  | d :: ds, h => by
    rw [List.all_cons, Bool.and_eq_true] at h
    obtain ⟨R, rfl, hR⟩ := tab_Ts h.2
    cases d with
    | tuple es =>
      have h1 := h.1
      simp only [rowD, Bool.and_eq_true, decide_eq_true_eq] at h1
      obtain ⟨ns, rfl, hb⟩ := rests_Zs h1.2
      refine ⟨ns :: R, rfl, fun r hr => ?_⟩
      rcases List.mem_cons.mp hr with z | z
      · rw [z]; exact ⟨by simpa using h1.1, hb⟩
      · exact hR r z
    | _ => cases h.1
theorem tabD_iff {m : Int} {w : Nat} {d : D} : tabD m w d = true ↔ ∃ R : List (List Int), d = .tuple (Ts R) ∧ R.length ≤ w ∧ ∀ r ∈ R, r.length ≤ w ∧ Bd m r := by
  constructor
  · intro h
    cases d with
    | tuple ds =>
      simp only [tabD, Bool.and_eq_true, decide_eq_true_eq] at h
      obtain ⟨R, rfl, hR⟩ := tab_Ts h.2
      exact ⟨R, rfl, by simpa using h.1, hR⟩
    | _ => cases h
  · rintro ⟨R, rfl, h1, h2⟩
    simp only [tabD, Bool.and_eq_true, decide_eq_true_eq]
    refine ⟨by simpa using h1, List.all_eq_true.mpr fun d hd => ?_⟩
    obtain ⟨r, hr, rfl⟩ := List.mem_map.mp hd
    simp only [rowD, Bool.and_eq_true, decide_eq_true_eq]
    exact ⟨by simpa using (h2 r hr).1, Zs_rests (h2 r hr).2⟩
theorem all_bs (bs : List Bool) : biD .all [.list (bs.map .bool)] = some (.imm (.bool (bs.all id))) := by
  show (boolsOf (bs.map .bool)).map (fun bs => Sl.imm (.bool (bs.all id))) = _
  rw [boolsOf_map]
  rfl
theorem all_map {T : Type} (p : T → Bool) (l : List T) : (l.map p).all id = l.all p := by
  rw [List.all_map]
  rfl
/-- the table of multiples -/
def mulT (m : Int) (R : List (List Int)) : List (List Int) := (List.range R.length).map fun i => (List.range (ro R i).length).map fun j => co2 R i j * topI m i j
theorem mulT_co {m : Int} (R : List (List Int)) (i j : Nat) : co2 (mulT m R) i j = co2 R i j * topI m i j := by
  have e : ro (mulT m R) i = if i < R.length then (List.range (ro R i).length).map fun j => co2 R i j * topI m i j else [] := ro_rangeMap ..
  by_cases hi : i < R.length
  · by_cases hj : j < (ro R i).length
    · unfold co2
      rw [e, if_pos hi, co_rangeMap, if_pos hj]
    · rw [co2_gt (T := R) (.inr (by omega)), co2_gt (T := mulT m R) (.inr (by rw [e, if_pos hi, List.length_map, List.length_range]; omega))]
      simp
  · rw [co2_gt (T := R) (.inl (by omega)), co2_gt (T := mulT m R) (.inl (by simp [mulT]; omega))]
    simp
theorem mulT_len (m : Int) (R : List (List Int)) : (mulT m R).length = R.length := by simp [mulT]
theorem mulT_row {m : Int} {R : List (List Int)} {w : Nat} (h : ∀ r ∈ R, r.length ≤ w) : ∀ r ∈ mulT m R, r.length ≤ w := fun r hr => by
  obtain ⟨i, hi, rfl⟩ := List.mem_map.mp hr
  simp
  exact ro_len h i
theorem mulT_dvd (m : Int) (R : List (List Int)) (i j : Nat) : topI m i j ∣ co2 (mulT m R) i j := by
  rw [mulT_co]
  exact Int.dvd_mul_left ..
end Ev
end
section
namespace Ev
open PySem
theorem enum_Zs (r : List Int) : enumD (Zs r) = (List.range r.length).map fun j => .tuple [.int (j : Int), .int (co r j)] := by
  refine List.ext_getElem (by simp [enumD]) fun i h1 h2 => ?_
  have : i < r.length := by simpa using h2
  simp [enumD, co, this]
theorem c_neZZ (a b : List Int) : cmpD .ne (.tuple (Zs a)) (.tuple (Zs b)) = some (!decide (a = b)) := by
  show (if SeqAt.shaped (.tuple (Zs a)) = true ∧ SeqAt.shaped (.tuple (Zs b)) = true then some (!PyData.eqv (.tuple (Zs a)) (.tuple (Zs b))) else none) = _
  rw [if_pos ⟨sh_Zs a, sh_Zs b⟩]
  exact congrArg (fun x => some (!x)) (eqvZ a b)
theorem paperI_co {m : Int} (T : List (List Int)) (i j : Nat) : co2 (paperI m T) i j = (co2 T i j).fdiv (topI m i j) := by
  have e : ro (paperI m T) i = if i < T.length then (List.range (ro T i).length).map fun j => (co2 T i j).fdiv (topI m i j) else [] := ro_rangeMap ..
  by_cases hi : i < T.length
  · by_cases hj : j < (ro T i).length
    · unfold co2
      rw [e, if_pos hi, co_rangeMap, if_pos hj]
    · rw [co2_gt (T := T) (.inr (by omega)), co2_gt (T := paperI m T) (.inr (by rw [e, if_pos hi, List.length_map, List.length_range]; omega))]
      simp
  · rw [co2_gt (T := T) (.inl (by omega)), co2_gt (T := paperI m T) (.inl (by simp [paperI]; omega))]
    simp
theorem paper_mul {m : Int} (hm : 0 < m) {T : List (List Int)} (h : nullB m T = true) (i j : Nat) : co2 (mulT m (paperI m T)) i j = co2 T i j := by
  rw [mulT_co, paperI_co]
  obtain ⟨q, hq⟩ := (nullB_iff hm).mp h i j
  have t0 := top_pos hm i j
  rw [hq, Int.mul_fdiv_cancel_left _ (by omega), Int.mul_comm]
theorem paperI_len (m : Int) (T : List (List Int)) : (paperI m T).length = T.length := by simp [paperI]
/-- a told null paper is a table of rests -/
theorem paper_tab {m : Int} (hm : 0 < m) {T : List (List Int)} (hl : T.length ≤ 80) (hr : ∀ r ∈ T, r.length ≤ 80) (hb : ∀ i j, 0 ≤ co2 T i j ∧ co2 T i j < m) : tabD m 80 (.tuple (Ts (paperI m T))) = true := by
  refine tabD_iff.mpr ⟨_, rfl, by rw [paperI_len]; exact hl, fun r hr' => ?_⟩
  obtain ⟨i, hi, rfl⟩ := List.mem_map.mp hr'
  refine ⟨by simp; exact ro_len hr i, fun a ha => ?_⟩
  obtain ⟨j, hj, rfl⟩ := List.mem_map.mp ha
  obtain ⟨h0, h1⟩ := hb i j
  have t0 := top_pos hm i j
  refine ⟨Int.fdiv_nonneg h0 (by omega), ?_⟩
  rw [Int.fdiv_eq_ediv_of_nonneg _ (by omega)]
  exact Int.lt_of_le_of_lt (Int.ediv_le_self _ h0) h1
theorem parts_bd {m : Int} (hm : 0 < m) (A : List (List Int)) (i j : Nat) : 0 ≤ co2 (partsI m A) i j ∧ co2 (partsI m A) i j < m := by
  unfold partsI
  rw [turnI_co]
  split
  · split
    · next h => 
      rw [ro_rangeMap, if_pos h]
      exact Bd.at (splitN_bd hm _ _ _) hm i
    · exact ⟨Int.le_refl _, hm⟩
  · exact ⟨Int.le_refl _, hm⟩
theorem Zs_inj : ∀ {a b : List Int}, Zs a = Zs b → a = b
  | [], [], _ => rfl
  | [], _ :: _, h => nomatch h
  | _ :: _, [], h => nomatch h
  | x :: a, y :: b, h => by
    rw [Zs, Zs, List.map_cons, List.map_cons] at h
    injection h with h1 h2
    injection h1 with h3
    rw [h3, Zs_inj (a := a) (b := b) h2]
theorem Ts_inj : ∀ {a b : List (List Int)}, Ts a = Ts b → a = b
  | [], [], _ => rfl
  | [], _ :: _, h => nomatch h
  | _ :: _, [], h => nomatch h
  | x :: a, y :: b, h => by
    rw [Ts, Ts, List.map_cons, List.map_cons] at h
    injection h with h1 h2
    injection h1 with h3
    rw [Zs_inj h3, Ts_inj (a := a) (b := b) h2]
/-- two tables with the same rows are one in the ring -/
theorem ofR_ro {m : Int} {A B : List (List Int)} (h : ∀ i, ro A i = ro B i) : Al.ofR m A = Al.ofR m B := Al.Poly.ext fun i => by
  show Al.ofL m (ro A i) = Al.ofL m (ro B i)
  rw [h]
/-- lets_null2 lets this through .. -/
structure LetsY (m : Int) (A : List (List Int)) (d : D) : Prop where
  ex : ∃ R B : List (List Int), d = .tuple (Ts R) ∧ tabD m 80 d = true ∧ Is2 m B (Al.F2 m (mulT m R)) 100 100 ∧ ∀ i, ro A i = ro B i
/-- .. or refuses it -/
inductive LetsN (m : Int) (A : List (List Int)) (d : D) (x : Exn) : Prop
  | shape (h : tabD m 80 d = false) (e : x = ⟨"NoPaper", [("number", .int 0), ("word", .str "shape")]⟩)
  | sum (R B : List (List Int)) (i : Nat) (hd : d = .tuple (Ts R)) (h : tabD m 80 d = true) (hB : Is2 m B (Al.F2 m (mulT m R)) 100 100) (hi : ∀ k, k < i → ro A k = ro B k) (hn : ro A i ≠ ro B i) (e : x = ⟨"NoPaper", [("number", .int (i : Int)), ("word", .str "sum")]⟩)
theorem LetsN.cls {m : Int} {A : List (List Int)} {d : D} {x : Exn} (h : LetsN m A d x) : x.cls = "NoPaper" := by
  cases h with
  | shape _ e => rw [e]
  | sum _ _ _ _ _ _ _ _ e => rw [e]
theorem LetsY.null {m : Int} (hm : 0 < m) {A : List (List Int)} {d : D} (h : LetsY m A d) : nullB m (partsI m A) = true := by
  obtain ⟨R, B, _, _, hB, he⟩ := h.ex
  refine (null_at2 hm).mpr fun x y => ?_
  rw [ofR_ro he, hB.is]
  exact Al.nought_of hm (mulT_dvd m R) x y
/-- what is told is let -/
theorem LetsN.told {m : Int} (hm : 0 < m) {A : List (List Int)} (hA : Red2 m A) {x : Exn} (hl : A.length ≤ 80) (hr : ∀ r ∈ A, r.length ≤ 80) (hn : nullB m (partsI m A) = true) (h : LetsN m A (.tuple (Ts (paperI m (partsI m A)))) x) : False := by
  have hTl : (partsI m A).length = A.length := turnI_len ..
  have hTr : ∀ r ∈ partsI m A, r.length ≤ 80 := fun r h => by
    have h1 : r.length = (widI A).toNat := turnI_row r h
    have h2 : (widI A).toNat < 81 := wid_lt (fun r hr' => by have := hr r hr'; omega) (by omega)
    omega
  cases h with
  | shape h _ =>
    rw [paper_tab hm (by omega) hTr (parts_bd hm A)] at h
    cases h
  | sum R B i hd h hB hi hn' e =>
    obtain rfl : paperI m (partsI m A) = R := Ts_inj (by injection hd)
    have e1 : Al.F2 m (mulT m (paperI m (partsI m A))) = Al.ofR m A := by
      rw [← Al.F2_parts (m := m) A]
      exact Al.F2_eq hm fun i j => Cg.of_eq (paper_mul hm hn i j)
    rw [e1] at hB
    have hA2 : Is2 m A (Al.ofR m A) 80 80 := ⟨hA, rfl, hl, hr⟩
    exact hn' (by rw [hA2.eq hm hB])
end Ev
namespace Ev
open PySem
/-- the least form answers as the poly does -/
theorem least_at2 {m : Int} (hm : 0 < m) {T : List (List Int)} (x y : Nat) : (Al.at2 (Al.mk m (x : Int)) (Al.mk m (y : Int))).f (Al.F2 m (leastI m T)) = (Al.at2 (Al.mk m (x : Int)) (Al.mk m (y : Int))).f (Al.F2 m T) := by
  have e := Al.F2_lin (U := T) (S := leastI m T) (T := mulT m (paperI m T)) (a := 1) hm fun i j => Cg.of_eq (by
    rw [leastI_co, mulT_co, paperI_co]
    have h := Int.mul_fdiv_add_fmod (co2 T i j) (topI m i j)
    rw [Int.mul_comm] at h
    omega)
  rw [e, Al.Hom.add, Al.Hom.mul, Al.nought_of hm (mulT_dvd m (paperI m T))]
  grind
theorem least_nil {m : Int} (hm : 0 < m) {A B : List (List Int)} (hB : Is2 m B (Al.F2 m (leastI m (partsI m A))) 100 100) : B = [] ↔ nullB m (partsI m A) = true := by
  constructor
  · rintro rfl
    refine (null_at2 hm).mpr fun x y => ?_
    rw [← Al.F2_parts, ← least_at2 hm, ← hB.is, Al.at2_ofR]
    rfl
  · intro h
    have e : Al.F2 m (leastI m (partsI m A)) = Al.F2 m [] := Al.F2_eq hm fun i j => Cg.of_eq (by
      rw [leastI_co, co2_gt (T := []) (.inl (Nat.zero_le _))]
      exact (fmod_dvd (top_pos hm i j)).mpr ((nullB_iff hm).mp h i j))
    have e2 : Al.F2 m [] = Al.ofR m [] := by
      rw [← Al.F2_parts (m := m) []]
      rfl
    rw [e, e2] at hB
    have h0 : Is2 m [] (Al.ofR m []) 100 100 := ⟨rfl, rfl, by simp, by simp⟩
    exact hB.eq hm h0
@[simp] theorem c_neBB {a b : Bool} : cmpD .ne (.bool a) (.bool b) = some (!(a == b)) := by cases a <;> cases b <;> rfl
theorem co_all {p : Int → Prop} {L : List Int} (h : ∀ a ∈ L, p a) {j : Nat} (hj : j < L.length) : p (co L j) := by
  have : co L j = L[j] := by simp [co, hj]
  rw [this]
  exact h _ (List.getElem_mem hj)
end Ev
namespace Ev
open PySem
@[simp] theorem W_boolR {e : Env} {EX : Exn → Env → Prop} {i : Nat} {Q : Bool → Env → Prop} : WPX EX (boolOf (.ref i) e) Q ↔ ∃ s, e[i]? = some (some s) ∧ ∃ k, s.data = some (.bool k) ∧ Q k e := by
  show WPX EX ((look (.ref i) >>= fun d => match d with
    | .bool b => M.pure b
    | _ => badM) e) Q ↔ _
  rw [W_bind, W_lookr]
  constructor
  · rintro ⟨s, h1, d, h2, h3⟩
    cases d with
    | bool b =>
      rw [W_pure] at h3
      exact ⟨s, h1, b, h2, h3⟩
    | _ => exact (W_bad.mp h3).elim
  · rintro ⟨s, h1, k, h2, h3⟩
    refine ⟨s, h1, _, h2, ?_⟩
    rw [W_pure]
    exact h3
end Ev
end
section
-- fns: row_of row_of_tops is_rest is_table lets_null2
namespace Ev
open PySem
namespace K
theorem ev_row_of (n : Nat) {A : List (List Int)} {k : Nat} : wpF (CL (n + 1) "row_of" [.imm (.tuple (Ts A)), .imm (.int (k : Int))]) (fun s fin => s = .imm (.tuple (Zs (ro A k))) ∧ fin = [.imm .none, .imm .none]) := by
  refine WF_un (un_row_of _ _) rfl ?_
  simp [den, ofE, c_row_of, pinsOf]
  by_cases h : k < A.length
  · exact .inr ⟨h, _, at_Ts rfl h, by simp [endQ, finOf]⟩
  · refine .inl ⟨by omega, ?_⟩
    simp [endQ, finOf, List.getElem?_eq_none (Nat.le_of_not_lt h)]
theorem ev_row_of_tops (n : Nat) {m : Int} (hm : 0 < m) (hm2 : m < 100000) {i : Nat} (hi : i ≤ 100) {r : List Int} (hr : r.length ≤ 100) : wpF (CL (n + 3) "row_of_tops" [.imm (.int m), .imm (.int (i : Int)), .imm (.tuple (Zs r))]) (fun s fin => s = .own (.list (Zs ((List.range r.length).map fun j => co r j * topI m i j))) ∧ fin = [.imm .none, .imm .none, .imm .none]) := by
  refine WF_unS (un_row_of_tops _ _) rfl ?_
  unfold c_row_of_tops
  refine S_go ?_
  have en : enumD (Zs r) = (List.range r.length).map fun j => .tuple [.int (j : Int), .int (co r j)] := enum_Zs r
  simp [den, ofE, pinsOf, en]
  refine W_lcA (fun j : Nat => .tuple [.int (j : Int), .int (co r j)]) (fun j => .int (co r j * topI m i j)) (List.range r.length) ?_ ?_
  · intro j hj
    have hj : j < r.length := by simpa using hj
    obtain ⟨v, hv⟩ : ∃ v, v = co r j := ⟨_, rfl⟩
    rw [← hv]
    simp [W_nx, stores]
    by_cases h0 : v = 0
    · simp [h0]
    · simp [h0]
      refine W_call (ms := [false, false, false]) lk_top2 rfl (ev_top2 n hm hm2 (i := i) (j := j) (by omega) (by omega)) ?_
      rintro s fin ⟨rfl, rfl⟩
      have t0 := top_pos hm i j
      have t1 := top_le hm i j
      have mu : binD .mul (.int v) (.int (topI m i j)) = some (.imm (.int (v * topI m i j))) := b_mulR (by omega) (by omega)
      simp [back, mu]
  · rw [show (List.range r.length).map (fun j => PyData.int (co r j * topI m i j)) = Zs ((List.range r.length).map fun j => co r j * topI m i j) by simp]
    refine ⟨by simp [lim]; omega, ?_⟩
    simp [endQ, finOf]
theorem ev_is_rest (n : Nat) {m : Int} {d : D} : wpF (CL (n + 1) "is_rest" [.imm (.int m), .imm d]) (fun s fin => s = .imm (.bool (restD m d)) ∧ fin = [.imm .none, .imm .none]) := by
  refine WF_unS (un_is_rest _ _) rfl ?_
  unfold c_is_rest
  refine S_go ?_
  cases d with
  | int i =>
    simp [den, ofE, pinsOf, isiD, restD]
    by_cases h : 0 ≤ i
    · simp [h, endQ, finOf]
      omega
    · simp [h, endQ, finOf]
      omega
  | _ => simp [den, ofE, pinsOf, isiD, restD, endQ, finOf]
theorem ev_is_table (n : Nat) {m : Int} {d : D} (hd : ∀ ds, d = .tuple ds → ds.length < 10000 ∧ ∀ es, .tuple es ∈ ds → es.length < 10000) : wpF (CL (n + 2) "is_table" [.imm (.int m), .imm d]) (fun s fin => s = .imm (.bool (tabD m 80 d)) ∧ fin = [.imm .none, .imm .none]) := by
  refine WF_unS (un_is_table _ _) rfl ?_
  unfold c_is_table
  refine S_go ?_
  refine W_ifS ?_
  obtain ⟨P, hP⟩ : ∃ P : List D → Prop, ∀ l, P l ↔ l.all (rowD m 80) = true := ⟨_, fun _ => Iff.rfl⟩
  cases d with
  | tuple ds =>
    obtain ⟨hl, he⟩ := hd ds rfl
    by_cases h80 : (80 : Int) < (ds.length : Int)
    · simp [den, ofE, pinsOf, isiD, gl_MOST_ROWS, h80]
      refine S_go ?_
      simp [den, ofE, endQ, finOf, tabD]
      omega
    · have h80' : ¬ 80 < ds.length := by omega
      simp [den, ofE, pinsOf, isiD, gl_MOST_ROWS, h80, h80']
      refine S_nil ?_
      simp only [cq_nx]
      refine S_go ?_
      refine W_forL (fun d : D => d) ds (fun z : Option Sl => [some (.imm (.int m)), some (.imm (.tuple ds)), z, none]) (fun i _ => P (ds.take i)) none ?_ ((hP _).mpr rfl) ?_ ?_
      · simp [den, ofE]
      · rintro i z hi hI
        obtain ⟨d, hd⟩ : ∃ d, d = ds[i] := ⟨_, rfl⟩
        have hmem : d ∈ ds := by rw [hd]; exact List.getElem_mem hi
        rw [← hd]
        have no : rowD m 80 d = false → tabD m 80 (.tuple ds) = false := fun h => by
          simp only [tabD]
          refine Bool.eq_false_iff.mpr fun q => ?_
          rw [Bool.and_eq_true] at q
          have := List.all_eq_true.mp q.2 d hmem
          rw [h] at this
          cases this
        have yes : rowD m 80 d = true → P (ds.take (i + 1)) := fun h => by
          rw [hP] at hI ⊢
          rw [List.take_add_one, List.getElem?_eq_getElem hi, ← hd, List.all_append, hI]
          simp [h]
        simp [den]
        refine S_go ?_
        refine W_ifS ?_
        cases d with
        | tuple es =>
          have hel := he es hmem
          by_cases e80 : (80 : Int) < (es.length : Int)
          · simp [den, ofE, isiD, gl_MOST_ROWS, e80]
            refine S_go ?_
            simp [den, ofE, endQ, finOf]
            exact no (by simp [rowD]; omega)
          · have e80' : ¬ 80 < es.length := by omega
            simp [den, ofE, isiD, gl_MOST_ROWS, e80, e80']
            have em : es = es.map fun d => d := (List.map_id' es).symm
            rw [em]
            refine W_lcA (fun d : D => d) (fun d => .bool (restD m d)) es ?_ ?_
            · intro d _
              simp
              refine W_call (ms := [false, false]) lk_is_rest rfl (ev_is_rest n) ?_
              rintro s fin ⟨rfl, rfl⟩
              simp [back]
            · rw [show es.map (fun d => PyData.bool (restD m d)) = (es.map (restD m)).map .bool by simp [Function.comp_def], ← em]
              refine ⟨by simp [lim]; omega, ?_⟩
              simp only [W_pure, W_bind, W_fzo, W_lkc, W_lkn, W_looki, W_lift, all_bs, all_map]
              simp
              cases hA : es.all (restD m) with
              | true =>
                refine .inl ⟨fun x hx => List.all_eq_true.mp hA x hx, ?_⟩
                refine S_nil ?_
                simp only [cq_nx]
                refine S_nil ?_
                simp only [stepQ_nx]
                exact ⟨_, rfl, yes (by simp [rowD, hA]; omega)⟩
              | false =>
                refine .inr ⟨?_, ?_⟩
                · simpa using hA
                · refine S_go ?_
                  simp [den, ofE, endQ, finOf]
                  exact no (by simp [rowD, hA])
        | _ =>
          simp [den, ofE, isiD]
          refine S_go ?_
          simp [den, ofE, endQ, finOf]
          exact no rfl
      · rintro z hI
        rw [hP, List.take_length] at hI
        refine S_go ?_
        simp [den, ofE, endQ, finOf]
        simp only [tabD, hI]
        simp
        omega
  | _ =>
    simp [den, ofE, pinsOf, isiD]
    refine S_go ?_
    simp [den, ofE, endQ, finOf, tabD]
theorem ev_lets_null2 (n : Nat) {m : Int} (hm : 0 < m) (hm2 : m < 100000) {A : List (List Int)} (hA : A.length ≤ 80) {d : D} (hd : ∀ ds, d = .tuple ds → ds.length < 10000 ∧ ∀ es, .tuple es ∈ ds → es.length < 10000) : wpFX (CL (n + 5) "lets_null2" [.imm (.int m), .imm (.tuple (Ts A)), .imm d]) (fun s fin => s = .imm (.bool true) ∧ fin = [.imm .none, .imm .none, .imm .none] ∧ LetsY m A d) (fun x fin => fin = [.imm .none, .imm .none, .imm .none] ∧ LetsN m A d x) := by
  refine WFX_unS (un_lets_null2 _ _) rfl ?_
  unfold c_lets_null2
  refine S_go ?_
  refine W_ifS ?_
  simp [den, ofE, pinsOf]
  refine W_call (ms := [false, false]) lk_is_table rfl (ev_is_table (n + 2) hd) ?_
  rintro s fin ⟨rfl, rfl⟩
  cases ht : tabD m 80 d with
  | false =>
    simp [back]
    refine S_go ?_
    refine W_rse ?_
    simp [den, ofE]
    exact ⟨_, by unfold SG; rfl, rfl, _, rfl, rfl, .shape ht rfl⟩
  | true =>
    obtain ⟨R, rfl, hRl, hR⟩ := tabD_iff.mp ht
    have hRr : ∀ r ∈ R, r.length ≤ 80 := fun r h => (hR r h).1
    simp [back]
    refine S_nil ?_
    simp only [cq_nx]
    have okR : okI (R.length : Int) = true := by simp [okI]; omega
    refine S_go ?_
    simp [den, ofE, okR]
    refine W_lcR 0 R.length (fun i => .list (Zs ((List.range (ro R i).length).map fun j => co2 R i j * topI m i j))) ?_ ?_
    · intro i hi
      have a1 : atD (Ts R) (i : Int) = some (.tuple (Zs (ro R i))) := at_Ts rfl hi
      have hrl : (ro R i).length ≤ 80 := ro_len hRr i
      obtain ⟨r, hr⟩ : ∃ r, r = ro R i := ⟨_, rfl⟩
      have hco : (fun j => co2 R i j * topI m i j) = fun j => co r j * topI m i j := by rw [hr]
      rw [hco]
      rw [← hr] at a1 hrl ⊢
      simp [a1]
      refine W_call (ms := [false, false, false]) lk_row_of_tops rfl (ev_row_of_tops (n + 1) hm hm2 (i := i) (by omega) (r := r) (by omega)) ?_
      rintro s fin ⟨rfl, rfl⟩
      simp [back]
    rw [show (List.range R.length).map (fun i => PyData.list (Zs ((List.range (ro R i).length).map fun j => co2 R i j * topI m i j))) = Ls (mulT m R) by simp [mulT]]
    refine ⟨by simp [lim, mulT_len]; omega, ?_⟩
    refine W_call (ms := [false, false]) lk_built rfl (ev_built (n + 0) hm (by omega) (T := mulT m R) (w := 80) (by rw [mulT_len]; omega) (mulT_row hRr) (by omega)) ?_
    rintro s fin ⟨B, rfl, rfl, hB⟩
    have hBl := hB.la
    rw [mulT_len] at hBl
    have hB : Is2 m B (Al.F2 m (mulT m R)) 100 100 := ⟨hB.red, hB.is, by omega, fun r hr => by have := hB.lb r hr; omega⟩
    simp [back]
    obtain ⟨K, hK⟩ : ∃ K, K = max A.length B.length := ⟨_, rfl⟩
    have eK : (if A.length < B.length then (B.length : Int) else (A.length : Int)) = (K : Int) := by split <;> omega
    have okK : okI (K : Int) = true := by simp [okI]; omega
    refine S_go ?_
    refine W_forR 0 K (fun z : Option Sl => [some (.imm (.int m)), some (.imm (.tuple (Ts A))), some (.imm (.tuple (Ts R))), some (.imm (.tuple (Ts B))), z]) (fun i _ => ∀ k, k < i → ro A k = ro B k) none ?_ (fun k h => absurd h (by omega)) ?_ ?_
    · simp [den, ofE, eK, okK]
    · rintro i z hi hI
      obtain ⟨a, ha⟩ : ∃ a, a = ro A i := ⟨_, rfl⟩
      obtain ⟨b, hb⟩ : ∃ b, b = ro B i := ⟨_, rfl⟩
      have ra := ev_row_of (n + 3) (A := A) (k := i)
      have rb := ev_row_of (n + 3) (A := B) (k := i)
      rw [← ha] at ra
      rw [← hb] at rb
      simp [den]
      refine S_go ?_
      refine W_ifS ?_
      simp [den, ofE]
      refine W_call (ms := [false, false]) lk_row_of rfl ra ?_
      rintro s fin ⟨rfl, rfl⟩
      simp [back]
      refine W_call (ms := [false, false]) lk_row_of rfl rb ?_
      rintro s fin ⟨rfl, rfl⟩
      simp [back, c_neZZ]
      rw [ha, hb]
      by_cases e : ro A i = ro B i
      · refine .inl ⟨e, ?_⟩
        refine S_nil ?_
        simp only [cq_nx]
        refine S_nil ?_
        simp only [stepQ_nx]
        refine ⟨_, rfl, fun k hk => ?_⟩
        by_cases hki : k < i
        · exact hI k hki
        · obtain rfl : k = i := by omega
          exact e
      · refine .inr ⟨e, ?_⟩
        refine S_go ?_
        refine W_rse ?_
        simp [den, ofE]
        exact ⟨_, by unfold SG; rfl, rfl, _, rfl, rfl, .sum R B i rfl ht hB hI e rfl⟩
    · rintro z hI
      simp
      refine S_go ?_
      simp [den, ofE, endQ, finOf]
      refine ⟨R, B, rfl, ht, hB, fun i => ?_⟩
      by_cases hi : i < K
      · exact hI i hi
      · rw [ro_ge (by omega), ro_ge (by omega)]
end K
end Ev
end
section
namespace Ev
open PySem
theorem fit_str (x : String) (h1 : (PyData.str x).showable = true) (h2 : PyData.strOk (PyData.str x).shown = true) (h3 : (PyData.str x).shown.length ≤ 61) : Fit 0 61 (.str x) := ⟨h1, h2, by simp only [PyData.hasDict], h3, by simp only [PyData.depth]; exact Nat.le_refl _⟩
theorem fit_s1 : Fit 0 61 (.str "1") := fit_str _ (by decide +kernel) (by decide +kernel) (by decide +kernel)
theorem fit_sum : Fit 0 61 (.str "sum") := fit_str _ (by decide +kernel) (by decide +kernel) (by decide +kernel)
theorem fit_shape : Fit 0 61 (.str "shape") := fit_str _ (by decide +kernel) (by decide +kernel) (by decide +kernel)
/-- a thing in a table's place, a row in it -/
structure RowD (d : D) : Prop where
  fit : Fit 2 20203 d
  len : ∀ es, d = .tuple es → es.length ≤ 100
structure ThgD (d : D) : Prop where
  fit : Fit 3 2020503 d
  len : ∀ ds, d = .tuple ds → ds.length ≤ 100 ∧ ∀ es, .tuple es ∈ ds → es.length ≤ 100
theorem RowD.tup {ds : List D} (h : ∀ d ∈ ds, Fit 1 200 d) (hl : ds.length ≤ 100) : RowD (.tuple ds) := ⟨Fit.tup h hl, fun es e => by injection e with e; rw [← e]; exact hl⟩
theorem RowD.lst {ds : List D} (h : ∀ d ∈ ds, Fit 1 200 d) (hl : ds.length ≤ 100) : RowD (.list ds) := ⟨Fit.lst h hl, fun es e => by cases e⟩
theorem RowD.non : RowD .none := ⟨Fit.non.mono (by omega) (by omega), fun es e => by cases e⟩
theorem ThgD.tup {ds : List D} (h : ∀ d ∈ ds, RowD d) (hl : ds.length ≤ 100) : ThgD (.tuple ds) := ⟨(Fit.tup (fun d hd => (h d hd).fit) hl).mono (by omega) (by omega), fun es e => by injection e with e; rw [← e]; exact ⟨hl, fun fs hf => (h _ hf).len _ rfl⟩⟩
theorem ThgD.lst {ds : List D} (h : ∀ d ∈ ds, RowD d) (hl : ds.length ≤ 100) : ThgD (.list ds) := ⟨(Fit.lst (fun d hd => (h d hd).fit) hl).mono (by omega) (by omega), fun es e => by cases e⟩
theorem ThgD.non : ThgD .none := ⟨Fit.non.mono (by omega) (by omega), fun es e => by cases e⟩
theorem fitI {m : Int} (hm : m ≤ 1000000) {a : Int} (h : 0 ≤ a ∧ a < m) : Fit 1 200 (.int a) := (Fit.int (Nat.lt_of_lt_of_le (show a.natAbs < 1000001 by omega) (by decide))).mono (by omega) (by omega)
theorem fitZs {m : Int} (hm : m ≤ 1000000) {r : List Int} (h : Bd m r) : ∀ d ∈ Zs r, Fit 1 200 d := fun d hd => by
  obtain ⟨a, ha, rfl⟩ := List.mem_map.mp hd
  exact fitI hm (h a ha)
theorem rowTs {m : Int} (hm : m ≤ 1000000) {R : List (List Int)} (h : ∀ r ∈ R, r.length ≤ 100 ∧ Bd m r) : ∀ d ∈ Ts R, RowD d := fun d hd => by
  obtain ⟨r, hr, rfl⟩ := List.mem_map.mp hd
  exact RowD.tup (fitZs hm (h r hr).2) (by simpa using (h r hr).1)
theorem rep_T {d : D} {k : Int} (h2 : 2 ≤ k) (h3 : k ≤ 1000) : binD .mul (.tuple [d]) (.int k) = some (.imm (.tuple (List.replicate k.toNat d))) := by
  show (if [d] ≠ [] ∧ 2 ≤ k ∧ k ≤ 1000 ∧ [d].length ≤ 90 then some (Sl.imm (.tuple (List.replicate k.toNat [d]).flatten)) else none) = _
  rw [if_pos ⟨by simp, h2, h3, by simp⟩]
  simp
/-- what is told of a thing: True, or the word and the number -/
inductive ToldS (m : Int) (A : List (List Int)) (d t : D) : Prop
  | yes (h : LetsY m A d) (e : t = .bool true)
  | shape (h : tabD m 80 d = false) (e : t = .tuple [.str "shape", .int 0])
  | sum (R B : List (List Int)) (i : Nat) (hd : d = .tuple (Ts R)) (h : tabD m 80 d = true) (hB : Is2 m B (Al.F2 m (mulT m R)) 100 100) (hi : ∀ k, k < i → ro A k = ro B k) (hn : ro A i ≠ ro B i) (e : t = .tuple [.str "sum", .int (i : Int)])
theorem ToldS.eq {m : Int} (hm : 0 < m) {A : List (List Int)} {d t t' : D} (h : ToldS m A d t) (h' : ToldS m A d t') : t = t' := by
  have no : ∀ {R B : List (List Int)} {i : Nat}, d = .tuple (Ts R) → Is2 m B (Al.F2 m (mulT m R)) 100 100 → ro A i ≠ ro B i → LetsY m A d → False := fun {R B i} hd hB hn hy => by
    obtain ⟨R', B', e, _, hB', he⟩ := hy.ex
    rw [hd] at e
    obtain rfl := Ts_inj (by injection e)
    obtain rfl := hB.eq hm hB'
    exact hn (he i)
  cases h with
  | yes h e =>
    cases h' with
    | yes h' e' => rw [e, e']
    | shape h' e' =>
      obtain ⟨R, B, _, ht, _⟩ := h.ex
      rw [ht] at h'
      cases h'
    | sum R B i hd ht hB hi hn e' => exact (no hd hB hn h).elim
  | shape h e =>
    cases h' with
    | yes h' e' =>
      obtain ⟨R, B, _, ht, _⟩ := h'.ex
      rw [ht] at h
      cases h
    | shape h' e' => rw [e, e']
    | sum R B i hd ht hB hi hn e' =>
      rw [ht] at h
      cases h
  | sum R B i hd ht hB hi hn e =>
    cases h' with
    | yes h' e' => exact (no hd hB hn h').elim
    | shape h' e' =>
      rw [ht] at h'
      cases h'
    | sum R' B' i' hd' ht' hB' hi' hn' e' =>
      rw [hd] at hd'
      obtain rfl := Ts_inj (by injection hd')
      obtain rfl := hB.eq hm hB'
      obtain rfl : i = i' := by
        rcases Nat.lt_trichotomy i i' with z | z | z
        · exact (hn (hi' i z)).elim
        · exact z
        · exact (hn' (hi i' z)).elim
      rw [e, e']
theorem ToldS.fit {m : Int} {A : List (List Int)} {d t : D} (hA : A.length ≤ 100) (h : ToldS m A d t) : Fit 2 20203 t := by
  cases h with
  | yes _ e => rw [e]; exact (Fit.bl true).mono (by omega) (by omega)
  | shape _ e =>
    rw [e]
    refine (Fit.tup (k := 0) (n := 61) (l := 2) (fun d hd => ?_) (by simp)).mono (by omega) (by omega)
    simp only [List.mem_cons, List.not_mem_nil, or_false] at hd
    rcases hd with rfl | rfl
    · exact fit_shape
    · exact Fit.int (by decide)
  | sum R B i _ _ hB _ hn e =>
    have hi : i < 100 := by
      have h2 := hB.la
      refine Nat.lt_of_not_le fun z => hn ?_
      rw [ro_ge (by omega), ro_ge (by omega)]
    rw [e]
    refine (Fit.tup (k := 0) (n := 61) (l := 2) (fun d hd => ?_) (by simp)).mono (by omega) (by omega)
    simp only [List.mem_cons, List.not_mem_nil, or_false] at hd
    rcases hd with rfl | rfl
    · exact fit_sum
    · exact Fit.int (Nat.lt_of_lt_of_le (show ((i : Int)).natAbs < 1000 by omega) (by decide))
end Ev
namespace Ev
open PySem
theorem filt_if {T U : Type} (p : T → Bool) (g : T → U) (l : List T) : l.filterMap (fun i => if p i = true then some (g i) else none) = (l.filter p).map g := by
  induction l with
  | nil => rfl
  | cons a l ih =>
    rw [List.filterMap_cons, List.filter_cons]
    cases h : p a with
    | false => simp only [Bool.false_eq_true, if_false]; exact ih
    | true => simp only [if_true, List.map_cons]; rw [ih]
/-- the one row there, or none -/
def ro1 (A : List (List Int)) (i : Nat) : List (List Int) := (A.drop i).take 1
theorem ro1_lt {A : List (List Int)} {i : Nat} (h : i < A.length) : ro1 A i = [ro A i] := by
  have e : A[i] = ro A i := by simp [ro, h]
  unfold ro1
  rw [List.drop_eq_getElem_cons h, List.take_succ_cons, List.take_zero, e]
theorem ro1_ge {A : List (List Int)} {i : Nat} (h : A.length ≤ i) : ro1 A i = [] := by
  unfold ro1
  rw [List.drop_eq_nil_of_le h]
  rfl
theorem cut_1 (A : List (List Int)) (i : Nat) : cutD (Ts A) (some (i : Int)) (some ((i : Int) + 1)) = Ts (ro1 A i) := by
  have := cut_mid (Ts A) i (i + 1)
  rw [show ((i + 1 : Nat) : Int) = (i : Int) + 1 by omega] at this
  rw [this, show i + 1 - i = 1 by omega]
  unfold ro1
  simp [List.map_take, List.map_drop]
theorem ro1_len (A : List (List Int)) (i : Nat) : (ro1 A i).length ≤ 1 := by
  unfold ro1
  rw [List.length_take]
  omega
/-- which rows lie apart -/
theorem apart_iff {A B : List (List Int)} {i : Nat} : (decide (ro1 A i = ro1 B i) = false ∧ decide (ro1 A i ++ ro1 B i = [[]]) = false) ↔ ro A i ≠ ro B i := by
  simp only [decide_eq_false_iff_not]
  by_cases ha : i < A.length
  · by_cases hb : i < B.length
    · rw [ro1_lt ha, ro1_lt hb]
      simp
    · rw [ro1_lt ha, ro1_ge (by omega), ro_ge (A := B) (by omega)]
      simp
  · by_cases hb : i < B.length
    · rw [ro1_lt hb, ro1_ge (by omega), ro_ge (A := A) (by omega)]
      simp
    · rw [ro1_ge (by omega), ro1_ge (by omega), ro_ge (A := A) (by omega), ro_ge (A := B) (by omega)]
      simp
theorem first_of {K i : Nat} {q : Nat → Bool} {rest : List Nat} (h : (List.range K).filter q = i :: rest) : q i = true ∧ ∀ k, k < i → q k = false := by
  have hp : ((List.range K).filter q).Pairwise (· < ·) := List.Pairwise.filter _ List.pairwise_lt_range
  have hi : i ∈ (List.range K).filter q := by rw [h]; exact List.mem_cons_self ..
  obtain ⟨h1, h2⟩ := List.mem_filter.mp hi
  refine ⟨h2, fun k hk => ?_⟩
  refine Bool.eq_false_iff.mpr fun z => ?_
  have hk2 : k ∈ (List.range K).filter q := List.mem_filter.mpr ⟨List.mem_range.mpr (by have := List.mem_range.mp h1; omega), z⟩
  rw [h] at hk2 hp
  rcases List.mem_cons.mp hk2 with e | e
  · omega
  · have := (List.pairwise_cons.mp hp).1 k e
    omega
end Ev
end
section
-- fns: law_is_restD law_is_gridD law_told
namespace Ev
open PySem
namespace K
theorem ev_law_is_restD (n : Nat) {m : Int} {d : D} : wpF (CL (n + 1) "_law_is_rest" [.imm (.int m), .imm d]) (fun s fin => s = .imm (.bool (restD m d)) ∧ fin = [.imm .none, .imm .none]) := by
  refine WF_unS (un__law_is_rest _ _) rfl ?_
  unfold c__law_is_rest
  refine S_go ?_
  cases d with
  | int i =>
    simp [den, ofE, pinsOf, isiD, restD]
    by_cases h : 0 ≤ i
    · simp [h, endQ, finOf]
      omega
    · simp [h, endQ, finOf]
      omega
  | _ => simp [den, ofE, pinsOf, isiD, restD, endQ, finOf]
theorem ev_law_is_gridD (n : Nat) {m : Int} {d : D} (hd : ∀ ds, d = .tuple ds → ds.length < 10000 ∧ ∀ es, .tuple es ∈ ds → es.length < 10000) : wpF (CL (n + 2) "_law_is_grid" [.imm (.int m), .imm d]) (fun s fin => s = .imm (.bool (tabD m 80 d)) ∧ fin = [.imm .none, .imm .none]) := by
  refine WF_unS (un__law_is_grid _ _) rfl ?_
  unfold c__law_is_grid
  refine S_go ?_
  refine W_ifS ?_
  obtain ⟨P, hP⟩ : ∃ P : List D → Prop, ∀ l, P l ↔ l.all (rowD m 80) = true := ⟨_, fun _ => Iff.rfl⟩
  cases d with
  | tuple ds =>
    obtain ⟨hl, he⟩ := hd ds rfl
    by_cases h80 : (80 : Int) < (ds.length : Int)
    · simp [den, ofE, pinsOf, isiD, h80]
      refine S_go ?_
      simp [den, ofE, endQ, finOf, tabD]
      omega
    · have h80' : ¬ 80 < ds.length := by omega
      simp [den, ofE, pinsOf, isiD, h80, h80']
      refine S_nil ?_
      simp only [cq_nx]
      refine S_go ?_
      refine W_forL (fun d : D => d) ds (fun z : Option Sl => [some (.imm (.int m)), some (.imm (.tuple ds)), z, none]) (fun i _ => P (ds.take i)) none ?_ ((hP _).mpr rfl) ?_ ?_
      · simp [den, ofE]
      · rintro i z hi hI
        obtain ⟨d, hd⟩ : ∃ d, d = ds[i] := ⟨_, rfl⟩
        have hmem : d ∈ ds := by rw [hd]; exact List.getElem_mem hi
        rw [← hd]
        have no : rowD m 80 d = false → tabD m 80 (.tuple ds) = false := fun h => by
          simp only [tabD]
          refine Bool.eq_false_iff.mpr fun q => ?_
          rw [Bool.and_eq_true] at q
          have := List.all_eq_true.mp q.2 d hmem
          rw [h] at this
          cases this
        have yes : rowD m 80 d = true → P (ds.take (i + 1)) := fun h => by
          rw [hP] at hI ⊢
          rw [List.take_add_one, List.getElem?_eq_getElem hi, ← hd, List.all_append, hI]
          simp [h]
        simp [den]
        refine S_go ?_
        refine W_ifS ?_
        cases d with
        | tuple es =>
          have hel := he es hmem
          by_cases e80 : (80 : Int) < (es.length : Int)
          · simp [den, ofE, isiD, e80]
            refine S_go ?_
            simp [den, ofE, endQ, finOf]
            exact no (by simp [rowD]; omega)
          · have e80' : ¬ 80 < es.length := by omega
            simp [den, ofE, isiD, e80, e80']
            have em : es = es.map fun d => d := (List.map_id' es).symm
            rw [em]
            refine W_lcA (fun d : D => d) (fun d => .bool (restD m d)) es ?_ ?_
            · intro d _
              simp
              refine W_call (ms := [false, false]) lk__law_is_rest rfl (ev_law_is_restD n) ?_
              rintro s fin ⟨rfl, rfl⟩
              simp [back]
            · rw [show es.map (fun d => PyData.bool (restD m d)) = Bs (es.map (restD m)) by simp [Function.comp_def], ← em]
              have hin := c_inB false (es.map (restD m))
              rw [any_false] at hin
              obtain ⟨bs, hbs⟩ : ∃ bs, bs = es.map (restD m) := ⟨_, rfl⟩
              rw [← hbs] at hin ⊢
              have hbl : bs.length = es.length := by rw [hbs]; simp
              refine ⟨by simp [lim]; omega, ?_⟩
              obtain ⟨b, hb⟩ : ∃ b, es.all (restD m) = b := ⟨_, rfl⟩
              rw [hb] at hin
              simp [hin]
              cases b with
              | true =>
                refine .inl ⟨rfl, ?_⟩
                refine S_nil ?_
                simp only [cq_nx]
                refine S_nil ?_
                simp only [stepQ_nx]
                exact ⟨_, rfl, yes (by simp only [rowD, hb]; simp; omega)⟩
              | false =>
                refine .inr ⟨rfl, ?_⟩
                refine S_go ?_
                simp [den, ofE, endQ, finOf]
                exact no (by simp only [rowD, hb]; simp)
        | _ =>
          simp [den, ofE, isiD]
          refine S_go ?_
          simp [den, ofE, endQ, finOf]
          exact no rfl
      · rintro z hI
        rw [hP, List.take_length] at hI
        refine S_go ?_
        simp [den, ofE, endQ, finOf]
        simp only [tabD, hI]
        simp
        omega
  | _ =>
    simp [den, ofE, pinsOf, isiD]
    refine S_go ?_
    simp [den, ofE, endQ, finOf, tabD]
theorem ev_law_told (n : Nat) {m : Int} (hm : 0 < m) (hm2 : m < 100000) {A : List (List Int)} (hA : A.length ≤ 80) {d : D} (hd : ∀ ds, d = .tuple ds → ds.length < 10000 ∧ ∀ es, .tuple es ∈ ds → es.length < 10000) : wpF (CL (n + 6) "_law_told" [.imm (.int m), .imm (.tuple (Ts A)), .imm d]) (fun s fin => ∃ t, s = .imm t ∧ fin = [.imm .none, .imm .none, .imm .none] ∧ ToldS m A d t) := by
  refine WF_unS (un__law_told _ _) rfl ?_
  unfold c__law_told
  refine S_go ?_
  simp [den, ofE, pinsOf]
  refine S_go ?_
  refine W_try ?_
  refine S_go ?_
  simp [den, ofE]
  refine W_callX (ms := [false, false, false]) lk_lets_null2 rfl (ev_lets_null2 n hm hm2 hA hd) ?_ ?_
  · rintro s fin ⟨rfl, rfl, hy⟩
    simp [back]
    refine S_nil ?_
    simp only [cq_nx]
    refine S_go ?_
    simp [den, ofE, endQ, finOf]
    exact .yes hy rfl
  · rintro x fin ⟨rfl, hx⟩
    have rfk : SG.refs.lookup ("_law_refused" : Str) = some ⟨"NoPaper", ["word", "number"], "other"⟩ := by unfold SG; rfl
    have hv : ∀ (a : Int) (w : Str), hvD SG true ⟨"NoPaper", [("number", .int a), ("word", .str w)]⟩ (.ref "_law_refused") = some (.tuple [.str w, .int a]) := fun a w => by
      unfold hvD
      simp only [rfk]
      rfl
    refine ⟨_, rfl, .inl ⟨?_, ?_⟩⟩
    · rw [hx.cls]
      unfold SG
      rfl
    · cases hx with
      | shape h e =>
        subst e
        simp [suiteM, killO, hv]
        refine S_go ?_
        simp [den, ofE, endQ, finOf]
        exact .shape h rfl
      | sum R B i hd h hB hi hn e =>
        subst e
        simp [suiteM, killO, hv]
        refine S_go ?_
        simp [den, ofE, endQ, finOf]
        exact .sum R B i hd h hB hi hn rfl
end K
end Ev
end
section
-- fns: law_null_dueD
namespace Ev
open PySem
namespace K
theorem ev_law_null_dueD (n : Nat) {m : Int} (hm : 1 < m) (hm2 : m < 100000) {A : List (List Int)} (hA : A.length ≤ 80) {d : D} (hd : ∀ ds, d = .tuple ds → ds.length < 10000 ∧ ∀ es, .tuple es ∈ ds → es.length < 10000) : wpF (CL (n + 3) "_law_null_due" [.imm (.int m), .imm (.tuple (Ts A)), .imm d]) (fun s fin => ∃ t, s = .imm t ∧ fin = [.imm .none, .imm .none, .imm .none] ∧ ToldS m A d t) := by
  have hm0 : 0 < m := by omega
  refine WF_unS (un__law_null_due _ _) rfl ?_
  unfold c__law_null_due
  refine S_go ?_
  refine W_ifS ?_
  simp [den, ofE, pinsOf]
  refine W_call (ms := [false, false]) lk__law_is_grid rfl (ev_law_is_gridD n hd) ?_
  rintro s fin ⟨rfl, rfl⟩
  cases ht : tabD m 80 d with
  | false =>
    simp [back]
    refine S_go ?_
    simp [den, ofE, endQ, finOf]
    exact ⟨by decide, .shape ht rfl⟩
  | true =>
    obtain ⟨R, rfl, hRl, hR⟩ := tabD_iff.mp ht
    have hRr : ∀ r ∈ R, r.length ≤ 80 := fun r h => (hR r h).1
    have hRn : ∀ i j, 0 ≤ co2 R i j := fun i j => by
      by_cases hi : i < R.length
      · exact (Bd.at (hR _ (Al.ro_inI hi)).2 hm0 j).1
      · rw [co2_gt (.inl (by omega))]; exact Int.le_refl _
    simp [back]
    refine S_nil ?_
    simp only [cq_nx]
    refine S_go ?_
    simp [den, ofE]
    have okR : okI (R.length : Int) = true := by simp [okI]; omega
    obtain ⟨P, hP⟩ : ∃ P : Nat → List (List Int) × Option Sl × Option Sl × Option Sl × Option Sl × Option Sl → Prop, ∀ i s, P i s ↔ s.1 = (mulT m R).take i := ⟨_, fun _ _ => Iff.rfl⟩
    refine S_go ?_
    refine W_forR 0 R.length (fun s : List (List Int) × Option Sl × Option Sl × Option Sl × Option Sl × Option Sl => [some (.imm (.int m)), some (.imm (.tuple (Ts A))), some (.imm (.tuple (Ts R))), some (.own (.list (Ls s.1))), s.2.1, s.2.2.1, s.2.2.2.1, s.2.2.2.2.1, s.2.2.2.2.2]) P ([], none, none, none, none, none) ?_ ((hP _ _).mpr rfl) ?_ ?_
    · simp [den, ofE, okR]
    · rintro i ⟨F, z4, z5, z6, z7, z8⟩ hi hI
      have hF : F = (mulT m R).take i := (hP _ _).mp hI
      have hFl : F.length ≤ 80 := by rw [hF, List.length_take]; omega
      obtain ⟨r, hr⟩ : ∃ r, r = ro R i := ⟨_, rfl⟩
      have hrl : r.length ≤ 80 := by rw [hr]; exact ro_len hRr i
      have hrn : ∀ j, 0 ≤ co r j := fun j => by rw [hr]; exact hRn i j
      have a1 : atD (Ts R) (i : Int) = some (.tuple (Zs r)) := by rw [hr]; exact at_Ts rfl hi
      have okr : okI (r.length : Int) = true := by simp [okI]; omega
      simp [den]
      refine S_go ?_
      simp [den, ofE, a1, okr]
      refine W_lcR 0 r.length (fun j => .int (co r j * topI m i j)) ?_ ?_
      · intro j hj
        have a2 : atD (Zs r) (j : Int) = some (.int (co r j)) := at_Zs rfl hj
        have hn := hrn j
        obtain ⟨v, hv⟩ : ∃ v, v = co r j := ⟨_, rfl⟩
        rw [← hv] at a2 hn ⊢
        simp [a1, a2]
        by_cases h0 : 0 < v
        · refine .inr ⟨h0, ?_⟩
          refine W_call (ms := [false, false, false]) lk__law_top rfl (ev_law_top n hm0 hm2 (i := i) (j := j) (by omega) (by omega)) ?_
          rintro s fin ⟨rfl, rfl⟩
          have t0 := top_pos hm0 i j
          have t1 := top_le hm0 i j
          have mu : binD .mul (.int v) (.int (topI m i j)) = some (.imm (.int (v * topI m i j))) := b_mulR (by omega) (by omega)
          simp [back, mu]
        · refine .inl ⟨by omega, ?_⟩
          rw [show v = 0 by omega, Int.zero_mul]
      obtain ⟨g, hg⟩ : ∃ g : List Int, g = (List.range r.length).map fun j => co r j * topI m i j := ⟨_, rfl⟩
      have hgl : g.length = r.length := by rw [hg]; simp
      rw [show (List.range r.length).map (fun j => PyData.int (co r j * topI m i j)) = Zs g by rw [hg]; simp]
      refine ⟨by simp [lim]; omega, ?_⟩
      simp
      refine S_go ?_
      simp [den, ofE]
      refine ⟨by simp [lim]; omega, ?_⟩
      refine S_nil ?_
      simp only [stepQ_nx]
      refine ⟨(F ++ [g], _, _, _, _, _), by simp; exact ⟨rfl, rfl, rfl, rfl, rfl⟩, (hP _ _).mpr ?_⟩
      show F ++ [g] = _
      rw [hF, hg, hr]
      exact take_snoc (f := fun i => (List.range (ro R i).length).map fun j => co2 R i j * topI m i j) hi
    · rintro ⟨F, z4, z5, z6, z7, z8⟩ hI
      have hF : F = (mulT m R).take R.length := (hP _ _).mp hI
      rw [← mulT_len m R, List.take_length] at hF
      subst hF
      have hMl := mulT_len m R
      have hMr := mulT_row (m := m) hRr
      simp
      refine S_go ?_
      simp [den, ofE]
      refine W_call (ms := [false, false]) lk__law_sum rfl (ev_law_sum n hm0 (A := mulT m R) (by omega) (fun r h => by have := hMr r h; omega)) ?_
      rintro s fin ⟨rfl, rfl⟩
      obtain ⟨Z, hZe⟩ : ∃ Z, Z = trim2 m (unpartsI m (mulT m R)) := ⟨_, rfl⟩
      have hZ : Is2 m Z (Al.F2 m (mulT m R)) 100 100 := by
        rw [hZe]
        refine Is2.trim hm0 (Al.F2_unparts _) (by rw [show (unpartsI m (mulT m R)).length = (mulT m R).length from turnI_len ..]; omega) (fun r h => ?_)
        have h1 : r.length = (widI (mulT m R)).toNat := turnI_row r h
        have h2 : (widI (mulT m R)).toNat < 81 := wid_lt (fun r hr' => by have := hMr r hr'; omega) (by omega)
        omega
      rw [← hZe]
      have hZl := hZ.la
      simp [back]
      obtain ⟨K, hK⟩ : ∃ K, K = max A.length Z.length := ⟨_, rfl⟩
      have eK : (if A.length < Z.length then (Z.length : Int) else (A.length : Int)) = (K : Int) := by split <;> omega
      have okK : okI (K : Int) = true := by simp [okI]; omega
      obtain ⟨q1, hq1⟩ : ∃ q : Nat → Bool, ∀ i, q i = !decide (ro1 A i = ro1 Z i) := ⟨_, fun _ => rfl⟩
      obtain ⟨q2, hq2⟩ : ∃ q : Nat → Bool, ∀ i, q i = !decide (ro1 A i ++ ro1 Z i = [[]]) := ⟨_, fun _ => rfl⟩
      have n1 : ∀ i : Nat, cmpD .ne (.tuple (Ts (ro1 A i))) (.tuple (Ts (ro1 Z i))) = some (q1 i) := fun i => by rw [c_neTs, hq1]
      have n2 : ∀ i : Nat, cmpD .ne (.tuple (Ts (ro1 A i ++ ro1 Z i))) (.tuple [.tuple []]) = some (q2 i) := fun i => by
        have := c_neTs (ro1 A i ++ ro1 Z i) [[]]
        rw [hq2, ← this]
        rfl
      have b2 : ∀ i : Nat, binD .add (.tuple (Ts (ro1 A i))) (.tuple (Ts (ro1 Z i))) = some (.imm (.tuple (Ts (ro1 A i ++ ro1 Z i)))) := fun i => by
        have l1 := ro1_len A i
        have l2 := ro1_len Z i
        rw [add_TT (by simp [lim]; omega)]
        simp
      refine S_go ?_
      simp [den, ofE, eK, okK]
      rw [range_map]
      refine W_lcM _ (fun i : Nat => if q1 i = true then some (.int (i : Int)) else none) ?_ ?_
      · intro i hi
        simp [cut_1, n1]
      rw [filt_if]
      obtain ⟨L1, hL1⟩ : ∃ L1, L1 = (List.range K).filter q1 := ⟨_, rfl⟩
      rw [← hL1]
      have hL1l : L1.length ≤ K := by
        rw [hL1]
        have := List.length_filter_le q1 (List.range K)
        simpa using this
      refine ⟨by simp [lim]; omega, ?_⟩
      simp
      refine S_go ?_
      simp [den, ofE]
      refine W_lcM (fun i : Nat => .int (i : Int)) (fun i : Nat => if q2 i = true then some (.int (i : Int)) else none) ?_ ?_
      · intro i hi
        have b2i := b2 i
        have n2i := n2 i
        obtain ⟨W, hW⟩ : ∃ W, W = ro1 A i ++ ro1 Z i := ⟨_, rfl⟩
        rw [← hW] at b2i n2i
        cases hq : q2 i with
        | false =>
          rw [hq] at n2i
          simp [cut_1, b2i, n2i]
          decide
        | true =>
          rw [hq] at n2i
          simp [cut_1, b2i, n2i]
          decide
      rw [filt_if]
      obtain ⟨L2, hL2⟩ : ∃ L2, L2 = L1.filter q2 := ⟨_, rfl⟩
      rw [← hL2]
      have hL2l : L2.length ≤ K := by
        rw [hL2]
        have := List.length_filter_le q2 L1
        omega
      have hL2' : L2 = (List.range K).filter fun i => q2 i && q1 i := by rw [hL2, hL1, List.filter_filter]
      have hqq : ∀ i, (q2 i && q1 i) = true ↔ ro A i ≠ ro Z i := fun i => by
        rw [← apart_iff, hq1, hq2, Bool.and_comm]
        simp
      rw [show L2.map (fun i : Nat => PyData.int (i : Int)) = Zs (L2.map fun i : Nat => (i : Int)) by simp [Function.comp_def]]
      obtain ⟨ns, hns⟩ : ∃ ns, ns = L2.map fun i : Nat => (i : Int) := ⟨_, rfl⟩
      rw [← hns]
      have hnl : ns.length = L2.length := by rw [hns]; simp
      have cE := c_eqLE ns
      refine ⟨by simp [lim]; omega, ?_⟩
      simp
      refine S_go ?_
      cases L2 with
      | nil =>
        obtain rfl : ns = [] := hns
        simp [den, ofE, endQ, finOf, show cmpD .eq (.list []) (.list []) = some true by rfl]
        refine .yes ⟨R, Z, rfl, ht, hZ, fun i => ?_⟩ rfl
        by_cases hi : i < K
        · refine Decidable.byContradiction fun z => ?_
          have h1 := (hqq i).mpr z
          have h2 : i ∈ (List.range K).filter fun i => q2 i && q1 i := List.mem_filter.mpr ⟨List.mem_range.mpr hi, h1⟩
          rw [← hL2'] at h2
          cases h2
        · rw [ro_ge (by omega), ro_ge (by omega)]
      | cons i rest =>
        obtain ⟨f1, f2⟩ := first_of hL2'.symm
        have a0 : atD (Zs ns) 0 = some (.int (i : Int)) := at_nat (by decide) (by rw [hns]; rfl)
        have cE2 : cmpD .eq (.list (Zs ns)) (.list []) = some false := by rw [cE, hns]; rfl
        simp [den, ofE, cE2, a0, endQ, finOf]
        refine ⟨by decide, .sum R Z i rfl ht hZ (fun k hk => ?_) ((hqq i).mp f1) rfl⟩
        refine Decidable.byContradiction fun z => ?_
        have h1 := (hqq k).mpr z
        rw [f2 k hk] at h1
        cases h1
end K
end Ev
end
section
-- fns: draw law_odd
namespace Ev
open PySem
namespace K
theorem ev_draw (n : Nat) {cs : List Int} {sp h many : Int} (h0 : 0 ≤ h) (s0 : 0 ≤ sp) (s1 : sp < 1000000000) (m0 : 0 < many) (m1 : many ≤ 1000000) (hc : cs.length < 1000) : wpF (CL (n + 1) "_law_draw" [.own (tapeD cs sp h), .imm (.int many)]) (DrawQ cs sp many) := by
  refine WF_un (un__law_draw _ _) rfl ?_
  have hm0 : many ≠ 0 := by omega
  have i1 : L2.ixN 3 1 = some 1 := by decide
  have i2 : L2.ixN 3 2 = some 2 := by decide
  have pw : binD .pow (.int 10) (.int 18) = some (.imm (.int 1000000000000000000)) := by rfl
  have q1 : binD .mul (.int sp) (.int sp) = some (.imm (.int (sp * sp))) := b_mulL (by omega) (by omega)
  have dv : ∀ i : Int, binD .div (.int i) (.int many) = some (.imm (.int (i.fdiv many))) := fun i => b_div hm0 (by omega)
  by_cases hh : 0 < h
  · simp [den, ofE, c__law_draw, pinsOf, at_1, at_2, i1, i2, pw, q1, dv, b_mod hm0, hh, c_neLE]
    simp [endQ, finOf]
    exact ⟨_, _, _, rfl, rfl, Int.fmod_nonneg_of_pos _ m0, Int.fmod_lt_of_pos _ m0, Int.le_refl _, by omega, Int.fdiv_nonneg h0 (by omega)⟩
  · have e1 : ∀ i : Int, binD .mul (.int i) (.int 613) = some (.imm (.int (i * 613))) := fun i => b_mulR (by omega) (by omega)
    have e2 : ∀ i : Int, binD .mul (.int i) (.int 48271) = some (.imm (.int (i * 48271))) := fun i => b_mulR (by omega) (by omega)
    have e3 : ∀ i : Int, binD .mul (.int i) (.int 40692) = some (.imm (.int (i * 40692))) := fun i => b_mulR (by omega) (by omega)
    have e4 : ∀ i : Int, binD .mul (.int i) (.int 16807) = some (.imm (.int (i * 16807))) := fun i => b_mulR (by omega) (by omega)
    have e5 : ∀ i : Int, binD .mul (.int 104729) (.int i) = some (.imm (.int (104729 * i))) := fun i => b_mulL (by omega) (by omega)
    have d1 : ∀ i : Int, binD .div (.int i) (.int 64) = some (.imm (.int (i.fdiv 64))) := fun i => b_div (by omega) (by decide)
    have r1 : ∀ i : Int, binD .mod (.int i) (.int 1000003) = some (.imm (.int (i.fmod 1000003))) := fun i => b_mod (by omega)
    have r2 : ∀ i : Int, binD .mod (.int i) (.int 2147483647) = some (.imm (.int (i.fmod 2147483647))) := fun i => b_mod (by omega)
    have r3 : ∀ i : Int, binD .mod (.int i) (.int 2147483399) = some (.imm (.int (i.fmod 2147483399))) := fun i => b_mod (by omega)
    have r4 : ∀ i : Int, binD .mod (.int i) (.int 2147483629) = some (.imm (.int (i.fmod 2147483629))) := fun i => b_mod (by omega)
    -- the end, whatever was drawn
    have fin1 : ∀ (X : Int) (a b c : Option Sl), endQ [true, false] (DrawQ cs sp many) (Fl.rt (Sl.imm (PyData.int (X.fmod many)))) [some (Sl.own (PyData.list [PyData.list (Zs cs), PyData.int (sp + 1), PyData.int h])), some (Sl.imm (PyData.int many)), a, b, c, none] := fun X a b c => by
      simp [endQ, finOf]
      exact ⟨_, _, _, rfl, rfl, Int.fmod_nonneg_of_pos _ m0, Int.fmod_lt_of_pos _ m0, by omega, by omega, h0⟩
    cases cs with
    | nil =>
      have c0 := c_neLE []
      simp at c0
      have hs : ¬ sp < 0 := by omega
      simp [den, ofE, c__law_draw, pinsOf, at_1, at_2, i1, i2, pw, q1, dv, b_mod hm0, hh, c0, e1, e2, e3, e4, e5, d1, r1, r2, r3, r4, hs]
      by_cases hb : sp * sp < 1000000000000000000
      · exact .inl ⟨hb, fin1 _ _ _ _⟩
      · exact .inr ⟨Int.not_lt.mp hb, fin1 _ _ _ _⟩
    | cons c cs =>
      have c0 := c_neLE (c :: cs)
      have ll : ((cs.length : Int) + 1) ≠ 0 := by omega
      have r5 : binD .mod (.int sp) (.int ((cs.length : Int) + 1)) = some (.imm (.int (sp.fmod ((cs.length : Int) + 1)))) := b_mod ll
      have f0 := Int.fmod_nonneg_of_pos sp (show 0 < (cs.length : Int) + 1 by omega)
      have f1 := Int.fmod_lt_of_pos sp (show 0 < (cs.length : Int) + 1 by omega)
      obtain ⟨cell, a⟩ : ∃ cell, atD (.int c :: Zs cs) (sp.fmod ((cs.length : Int) + 1)) = some (.int cell) := by
        refine ⟨(c :: cs).getD (sp.fmod ((cs.length : Int) + 1)).toNat 0, ?_⟩
        exact at_Zs (L := c :: cs) (by omega) (by simp; omega)
      simp at c0
      clear f0 f1
      simp [den, ofE, c__law_draw, pinsOf, at_1, at_2, i1, i2, pw, q1, dv, b_mod hm0, hh, c0, e1, e2, e3, e4, e5, d1, r1, r2, r3, r4, r5, a]
      by_cases hb : cell < 1000000000000000000
      · exact .inl ⟨hb, fin1 _ _ _ _⟩
      · refine .inr ⟨Int.not_lt.mp hb, ?_⟩
        by_cases hq : (cs.length : Int) + 1 ≤ sp
        · exact .inl ⟨hq, fin1 _ _ _ _⟩
        · refine .inr ⟨Int.not_le.mp hq, ?_⟩
          simp [endQ, finOf]
          exact ⟨_, _, _, rfl, rfl, Int.fmod_nonneg_of_pos _ m0, Int.fmod_lt_of_pos _ m0, by omega, by omega, Int.fdiv_nonneg (by omega) (by omega)⟩
theorem ev_law_odd (n : Nat) {cs : List Int} {sp h m : Int} (h0 : 0 ≤ h) (s0 : 0 ≤ sp) (s1 : sp < 800000000) (m0 : 0 < m) (m1 : m < 100000) (hc : cs.length < 1000) {R : List (List Int)} (hl : R.length ≤ 6) (hr : ∀ r ∈ R, r.length ≤ 6 ∧ Bd m r) : wpF (CL (n + 2) "_law_odd" [.own (tapeD cs sp h), .imm (.int m), .imm (.tuple (Ts R))]) (fun s fin => ∃ L sp' h', s = .own (.list L) ∧ fin = [.own (tapeD cs sp' h'), .imm .none, .imm .none] ∧ L.length ≤ 20 ∧ (∀ d ∈ L, ThgD d) ∧ sp ≤ sp' ∧ sp' ≤ sp + 4 ∧ 0 ≤ h') := by
  refine WF_unS (un__law_odd _ _) rfl ?_
  unfold c__law_odd
  refine S_go ?_
  simp [den, ofE, pinsOf]
  refine W_call (ms := [true, false]) lk__law_draw rfl (ev_draw n h0 s0 (by omega) (by omega) (by omega) hc) ?_
  rintro s fin ⟨x, sp1, h1, rfl, rfl, x0, x1, p1, p2, q1⟩
  obtain ⟨X, rfl⟩ : ∃ X : Nat, x = (X : Int) := ⟨x.toNat, by omega⟩
  obtain ⟨r, hrd⟩ : ∃ r, r = ro R X := ⟨_, rfl⟩
  have hrl : r.length ≤ 6 ∧ Bd m r := by
    by_cases hX : X < R.length
    · rw [hrd]; exact hr _ (Al.ro_inI hX)
    · rw [hrd, ro_ge (by omega)]
      exact ⟨by simp, fun a h => nomatch h⟩
  simp [back]
  refine S_cut (fun e1 => e1 = [some (.own (tapeD cs sp1 h1)), some (.imm (.int m)), some (.imm (.tuple (Ts R))), some (.imm (.int (X : Int))), some (.imm (.tuple (Zs r))), none, none, none, none]) ?_ ?_
  · by_cases hX : X < R.length
    · have a1 : atD (Ts R) (X : Int) = some (.tuple (Zs r)) := by rw [hrd]; exact at_Ts rfl hX
      simp [den, ofE, hX, a1]
    · obtain rfl : r = [] := by rw [hrd, ro_ge (by omega)]
      simp [den, ofE, hX]
  rintro e1 rfl
  refine S_go ?_
  simp [den, ofE]
  refine W_call (ms := [true, false]) lk__law_draw rfl (ev_draw n q1 (by omega) (by omega) (by omega) (by omega) hc) ?_
  rintro s fin ⟨y, sp2, h2, rfl, rfl, y0, y1, p3, p4, q2⟩
  obtain ⟨Y, rfl⟩ : ∃ Y : Nat, y = (Y : Int) := ⟨y.toNat, by omega⟩
  simp [back]
  obtain ⟨O7, hO⟩ : ∃ O7 : List D, O7 = [.int m, .int (-1), .bool true, .none, .str "1", .tuple [.int 1], .list [.int 1]] := ⟨_, rfl⟩
  have hOf : ∀ d ∈ O7, Fit 1 200 d := fun d hd => by
    rw [hO] at hd
    have f1 : ∀ d ∈ [PyData.int 1], Fit 0 61 d := fun d hd => by
      rw [List.mem_singleton.mp hd]
      exact Fit.int (by decide)
    simp only [List.mem_cons, List.not_mem_nil, or_false] at hd
    rcases hd with rfl | rfl | rfl | rfl | rfl | rfl | rfl
    · exact (Fit.int (Nat.lt_of_lt_of_le (show m.natAbs < 1000001 by omega) (by decide))).mono (by omega) (by omega)
    · exact (Fit.int (by decide)).mono (by omega) (by omega)
    · exact (Fit.bl true).mono (by omega) (by omega)
    · exact Fit.non.mono (by omega) (by omega)
    · exact fit_s1.mono (by omega) (by omega)
    · exact (Fit.tup f1 (l := 1) (by simp)).mono (by omega) (by omega)
    · exact (Fit.lst f1 (l := 1) (by simp)).mono (by omega) (by omega)
  refine S_go ?_
  simp [den, ofE]
  rw [← hO]
  refine ⟨by decide, by decide, ?_⟩
  refine W_call (ms := [true, false]) lk__law_draw rfl (ev_draw n q2 (by omega) (by omega) (by omega) (by omega) hc) ?_
  rintro s fin ⟨w, sp3, h3, rfl, rfl, w0, w1, p5, p6, q3⟩
  obtain ⟨W, rfl⟩ : ∃ W : Nat, w = (W : Int) := ⟨w.toNat, by omega⟩
  have hOl : O7.length = 7 := by rw [hO]; rfl
  have hW : W < O7.length := by omega
  obtain ⟨o, ho⟩ : ∃ o, o = O7[W] := ⟨_, rfl⟩
  have fo : Fit 1 200 o := by rw [ho]; exact hOf _ (List.getElem_mem hW)
  have a2 : atD O7 (W : Int) = some o := at_nat (by omega) (by rw [Int.toNat_natCast, List.getElem?_eq_getElem hW, ho])
  clear ho hOf hO
  simp [back, a2]
  -- the rows, the tables
  have lT : (Ts R).length ≤ 6 := by simpa using hl
  have lr : (Zs r).length ≤ 6 := by simpa using hrl.1
  have rowsT : ∀ d ∈ Ts R, RowD d := rowTs (m := m) (by omega) fun r h => ⟨by have := (hr r h).1; omega, (hr r h).2⟩
  have cellsr : ∀ d ∈ Zs r, Fit 1 200 d := fitZs (by omega) hrl.2
  obtain ⟨ra, hra⟩ : ∃ ra : D → List D, ∀ z, ra z = ((Zs r).take Y ++ [z]) ++ (Zs r).drop (Y + 1) := ⟨_, fun _ => rfl⟩
  obtain ⟨ta, hta⟩ : ∃ ta : D → List D, ∀ z, ta z = ((Ts R).take X ++ [z]) ++ (Ts R).drop (X + 1) := ⟨_, fun _ => rfl⟩
  have ral : ∀ z, (ra z).length ≤ 13 := fun z => by rw [hra]; simp at lr ⊢; omega
  have tal : ∀ z, (ta z).length ≤ 13 := fun z => by rw [hta]; simp at lT ⊢; omega
  have raf : ∀ z, Fit 1 200 z → ∀ d ∈ ra z, Fit 1 200 d := fun z hz d hd => by
    rw [hra] at hd
    rcases List.mem_append.mp hd with hd | hd
    · rcases List.mem_append.mp hd with hd | hd
      · exact cellsr d (List.mem_of_mem_take hd)
      · rw [List.mem_singleton.mp hd]; exact hz
    · exact cellsr d (List.mem_of_mem_drop hd)
  have taf : ∀ z, RowD z → ThgD (.tuple (ta z)) := fun z hz => by
    refine ThgD.tup (fun d hd => ?_) (by have := tal z; omega)
    rw [hta] at hd
    rcases List.mem_append.mp hd with hd | hd
    · rcases List.mem_append.mp hd with hd | hd
      · exact rowsT d (List.mem_of_mem_take hd)
      · rw [List.mem_singleton.mp hd]; exact hz
    · exact rowsT d (List.mem_of_mem_drop hd)
  have apf : ∀ z : List D, (∀ d ∈ z, RowD d) → z.length ≤ 90 → ThgD (.tuple (Ts R ++ z)) := fun z hz hzl => by
    refine ThgD.tup (fun d hd => ?_) (by rw [List.length_append]; omega)
    rcases List.mem_append.mp hd with hd | hd
    · exact rowsT d hd
    · exact hz d hd
  have b1 : ∀ z, binD .add (.tuple ((Zs r).take Y)) (.tuple [z]) = some (.imm (.tuple ((Zs r).take Y ++ [z]))) := fun z => add_TT (by simp [lim] at lr ⊢; omega)
  have b2 : ∀ z, binD .add (.tuple ((Zs r).take Y ++ [z])) (.tuple ((Zs r).drop (Y + 1))) = some (.imm (.tuple (ra z))) := fun z => by
    rw [hra]
    exact add_TT (by simp [lim] at lr ⊢; omega)
  have c1 : ∀ z, binD .add (.tuple ((Ts R).take X)) (.tuple [z]) = some (.imm (.tuple ((Ts R).take X ++ [z]))) := fun z => add_TT (by simp [lim] at lT ⊢; omega)
  have c2 : ∀ z, binD .add (.tuple ((Ts R).take X ++ [z])) (.tuple ((Ts R).drop (X + 1))) = some (.imm (.tuple (ta z))) := fun z => by
    rw [hta]
    exact add_TT (by simp [lim] at lT ⊢; omega)
  obtain ⟨ap, hap⟩ : ∃ ap : List D → List D, ∀ z, ap z = Ts R ++ z := ⟨_, fun _ => rfl⟩
  have c3 : ∀ z : List D, z.length ≤ 90 → binD .add (.tuple (Ts R)) (.tuple z) = some (.imm (.tuple (ap z))) := fun z hz => by
    rw [hap]
    exact add_TT (by simp [lim] at lT ⊢; omega)
  have c4 : binD .add (.tuple ((Ts R).take X)) (.tuple ((Ts R).drop (X + 1))) = some (.imm (.tuple ((Ts R).take X ++ (Ts R).drop (X + 1)))) := add_TT (by simp [lim] at lT ⊢; omega)
  simp only [← hap] at apf
  refine S_go ?_
  simp [den, ofE]
  refine W_call (ms := [true, false]) lk__law_draw rfl (ev_draw n q3 (by omega) (by omega) (by omega) (by omega) hc) ?_
  rintro s fin ⟨v, sp4, h4, rfl, rfl, v0, v1, p7, p8, q4⟩
  simp [back]
  refine ⟨by decide, ?_⟩
  have l2 : [o, PyData.int v] = [o, PyData.int v].map fun d : D => d := rfl
  rw [l2]
  refine W_lcA (fun d : D => d) (fun z => .tuple (ta (.tuple (ra z)))) [o, .int v] ?_ ?_
  · intro z hz
    simp [cut_to, cut_from1, b1, b2, c1, c2]
    decide
  have fv : Fit 1 200 (.int v) := fitI (m := m) (by omega) ⟨v0, v1⟩
  obtain ⟨t1, ht1⟩ : ∃ t1, t1 = PyData.tuple (ta (.tuple (ra o))) := ⟨_, rfl⟩
  obtain ⟨t2, ht2⟩ : ∃ t2, t2 = PyData.tuple (ta (.tuple (ra (.int v)))) := ⟨_, rfl⟩
  rw [show [o, PyData.int v].map (fun z => PyData.tuple (ta (.tuple (ra z)))) = [t1, t2] by rw [ht1, ht2]; rfl]
  have T1 : ThgD t1 := by rw [ht1]; exact taf _ (RowD.tup (raf o fo) (by have := ral o; omega))
  have T2 : ThgD t2 := by rw [ht2]; exact taf _ (RowD.tup (raf _ fv) (by have := ral (.int v); omega))
  clear ht1 ht2
  refine ⟨by simp [lim], ?_⟩
  simp
  refine S_go ?_
  simp [den, ofE, cut_to, cut_from1, c1, c2, c3, add_LL, lim]
  have fitE : RowD (.tuple []) := RowD.tup (fun d h => nomatch h) (by simp)
  have fit0 : ∀ k, k ≤ 90 → RowD (.tuple (List.replicate k (.int 0))) := fun k hk => RowD.tup (fun d hd => by
    rw [(List.mem_replicate.mp hd).2]
    exact (Fit.int (by decide)).mono (by omega) (by omega)) (by simp; omega)
  have one : ∀ {z : D}, RowD z → ∀ d ∈ [z], RowD d := fun hz d hd => by rw [List.mem_singleton.mp hd]; exact hz
  have repE : ∀ k, ∀ d ∈ List.replicate k (PyData.tuple []), RowD d := fun k d hd => by rw [(List.mem_replicate.mp hd).2]; exact fitE
  refine ⟨_, add_LL (by simp [lim]), ?_⟩
  obtain ⟨L8, hL8⟩ : ∃ L8, L8 = [t1, t2] ++ [PyData.list (Ts R), PyData.tuple (ta (PyData.list (Zs r))), PyData.tuple (ap [PyData.none]), PyData.none, PyData.str "sum", PyData.tuple [PyData.int 1, PyData.int 2]] := ⟨_, rfl⟩
  have L8l : L8.length = 8 := by rw [hL8]; rfl
  have L8f : ∀ d ∈ L8, ThgD d := fun d hd => by
    rw [hL8] at hd
    simp only [List.cons_append, List.nil_append, List.mem_cons, List.not_mem_nil, or_false] at hd
    rcases hd with rfl | rfl | rfl | rfl | rfl | rfl | rfl | rfl
    · exact T1
    · exact T2
    · exact ThgD.lst rowsT (by omega)
    · exact taf _ (RowD.lst cellsr (by omega))
    · exact apf _ (one RowD.non) (by simp)
    · exact ThgD.non
    · exact ⟨fit_sum.mono (by omega) (by omega), fun ds e => by cases e⟩
    · refine ThgD.tup (fun d hd => ?_) (by simp)
      simp only [List.mem_cons, List.not_mem_nil, or_false] at hd
      have fi : ∀ i : Int, i.natAbs < 10 ^ 60 → RowD (.int i) := fun i hi => ⟨(Fit.int hi).mono (by omega) (by omega), fun es e => by cases e⟩
      rcases hd with rfl | rfl
      · exact fi 1 (by decide)
      · exact fi 2 (by decide)
  rw [← hL8]
  simp
  obtain ⟨k81, hk81⟩ : ∃ k : Nat, 81 - (R.length : Int) = (k : Int) := ⟨(81 - (R.length : Int)).toNat, by omega⟩
  obtain ⟨k80, hk80⟩ : ∃ k : Nat, 80 - (R.length : Int) = (k : Int) := ⟨(80 - (R.length : Int)).toNat, by omega⟩
  have m1 : binD .mul (.tuple [.tuple []]) (.int (k81 : Int)) = some (.imm (.tuple (List.replicate k81 (.tuple [])))) := rep_T (by omega) (by omega)
  have m2 : binD .mul (.tuple [.tuple []]) (.int (k80 : Int)) = some (.imm (.tuple (List.replicate k80 (.tuple [])))) := rep_T (by omega) (by omega)
  obtain ⟨z80, hz80⟩ : ∃ z, z = List.replicate 80 (PyData.int 0) := ⟨_, rfl⟩
  obtain ⟨z81, hz81⟩ : ∃ z, z = List.replicate 81 (PyData.int 0) := ⟨_, rfl⟩
  have m3 : binD .mul (.tuple [.int 0]) (.int 80) = some (.imm (.tuple z80)) := by rw [hz80]; exact rep_T (by decide) (by decide)
  have m4 : binD .mul (.tuple [.int 0]) (.int 81) = some (.imm (.tuple z81)) := by rw [hz81]; exact rep_T (by decide) (by decide)
  obtain ⟨e81, he81⟩ : ∃ z, z = List.replicate k81 (PyData.tuple []) := ⟨_, rfl⟩
  obtain ⟨e80, he80⟩ : ∃ z, z = List.replicate k80 (PyData.tuple []) := ⟨_, rfl⟩
  rw [← he81] at m1
  rw [← he80] at m2
  have x1 := c3 [.tuple [.int 0, .int 0]] (by simp)
  have x2 := c3 e81 (by rw [he81]; simp; omega)
  have x3 := c3 [.tuple z80] (by simp)
  have x4 := c3 [.tuple z81] (by simp)
  have x5 := c3 e80 (by rw [he80]; simp; omega)
  refine S_go ?_
  simp [den, ofE, cut_to, cut_from1, c4, hk81, m1, x1, x2]
  refine ⟨by decide, by decide, by decide, _, add_LL (by simp [lim]; omega), ?_⟩
  obtain ⟨LC, hLC⟩ : ∃ LC, LC = L8 ++ [PyData.tuple ((Ts R).take X ++ (Ts R).drop (X + 1)), PyData.tuple (ap [PyData.tuple [PyData.int 0, PyData.int 0]]), PyData.tuple (ap e81), PyData.tuple (Ts R).reverse] := ⟨_, rfl⟩
  have LCl : LC.length = 12 := by rw [hLC, List.length_append, L8l]; rfl
  have LCf : ∀ d ∈ LC, ThgD d := fun d hd => by
    rw [hLC] at hd
    rcases List.mem_append.mp hd with hd | hd
    · exact L8f d hd
    simp only [List.mem_cons, List.not_mem_nil, or_false] at hd
    rcases hd with rfl | rfl | rfl | rfl
    · refine ThgD.tup (fun d hd => ?_) (by simp at lT ⊢; omega)
      rcases List.mem_append.mp hd with hd | hd
      · exact rowsT d (List.mem_of_mem_take hd)
      · exact rowsT d (List.mem_of_mem_drop hd)
    · exact apf _ (one (fit0 2 (by decide))) (by simp)
    · exact apf _ (by rw [he81]; exact repE k81) (by rw [he81]; simp; omega)
    · exact ThgD.tup (fun d hd => rowsT d (List.mem_reverse.mp hd)) (by simp at lT ⊢; omega)
  rw [← hLC]
  simp
  refine S_go ?_
  simp [den, ofE, m3, m4, x3, x4, hk80, m2, x5]
  refine ⟨by decide, by decide, _, add_LL (by simp [lim]; omega), ?_⟩
  obtain ⟨LE, hLE⟩ : ∃ LE, LE = LC ++ [PyData.tuple (ap [PyData.tuple z80]), PyData.tuple (ap [PyData.tuple z81]), PyData.tuple (ap e80)] := ⟨_, rfl⟩
  have LEl : LE.length = 15 := by rw [hLE, List.length_append, LCl]; rfl
  have LEf : ∀ d ∈ LE, ThgD d := fun d hd => by
    rw [hLE] at hd
    rcases List.mem_append.mp hd with hd | hd
    · exact LCf d hd
    simp only [List.mem_cons, List.not_mem_nil, or_false] at hd
    rcases hd with rfl | rfl | rfl
    · exact apf _ (one (by rw [hz80]; exact fit0 80 (by decide))) (by simp)
    · exact apf _ (one (by rw [hz81]; exact fit0 81 (by decide))) (by simp)
    · exact apf _ (by rw [he80]; exact repE k80) (by rw [he80]; simp; omega)
  rw [← hLE]
  simp [endQ, finOf]
  exact ⟨sp4, h4, ⟨rfl, rfl⟩, by omega, LEf, by omega, by omega, q4⟩
end K
end Ev
end
section
-- fns: tape number any law_add law_tableT law_of_tableT
namespace Ev
open PySem
namespace K
theorem ev_tape (n : Nat) {ns : List Int} (hl : ns.length ≤ 63) : wpF (CL (n + 1) "_law_tape" [.imm (.list (Zs ns))]) (fun s fin => s = .own (tapeD ns 0 0) ∧ fin = [.imm .none]) := by
  refine WF_un (un__law_tape _ _) rfl ?_
  have h := cut_all hl
  simp [den, ofE, c__law_tape, pinsOf, h]
  simp [endQ, finOf, lim]
theorem ev_number (n : Nat) {cs : List Int} {sp h rare : Int} (h0 : 0 ≤ h) (s0 : 0 ≤ sp) (s1 : sp < 900000000) (m0 : 0 < rare) (m1 : rare ≤ 1000000) (hc : cs.length < 1000) : wpF (CL (n + 2) "_law_number" [.own (tapeD cs sp h), .imm (.int rare)]) (NumQ cs sp) := by
  refine WF_un (un__law_number _ _) rfl ?_
  simp [den, ofE, c__law_number, pinsOf]
  refine W_call (ms := [true, false]) lk__law_draw rfl (ev_draw n h0 s0 (by omega) m0 m1 hc) ?_
  rintro s fin ⟨v, sp1, h1, rfl, rfl, v0, v1, p0, p1, q1⟩
  simp [back]
  by_cases e : v = 1
  · refine .inr ⟨e, by decide, ?_⟩
    refine W_call (ms := [true, false]) lk__law_draw rfl (ev_draw n q1 (by omega) (by omega) (by omega) (by omega) hc) ?_
    rintro s fin ⟨w, sp2, h2, rfl, rfl, w0, w1, p2, p3, q2⟩
    have a := at_menu (L := [7, 14, 15, 20, 21, 28, 30, 35]) w0 w1
    have b := menu_all (L := [7, 14, 15, 20, 21, 28, 30, 35]) (p := fun v => decide (2 ≤ v ∧ v ≤ 36)) (by decide) w0 w1
    simp only [decide_eq_true_eq] at b
    simp [back]
    exact ⟨_, a, by simp [endQ, finOf]; exact ⟨_, _, _, rfl, rfl, b.1, b.2, by omega, by omega, q2⟩⟩
  · refine .inl ⟨e, by decide, ?_⟩
    refine W_call (ms := [true, false]) lk__law_draw rfl (ev_draw n q1 (by omega) (by omega) (by omega) (by omega) hc) ?_
    rintro s fin ⟨w, sp2, h2, rfl, rfl, w0, w1, p2, p3, q2⟩
    have a := at_menu (L := [2, 3, 4, 6, 8, 12, 24, 5, 10, 9, 18, 16, 36]) w0 w1
    have b := menu_all (L := [2, 3, 4, 6, 8, 12, 24, 5, 10, 9, 18, 16, 36]) (p := fun v => decide (2 ≤ v ∧ v ≤ 36)) (by decide) w0 w1
    simp only [decide_eq_true_eq] at b
    simp [back]
    exact ⟨_, a, by simp [endQ, finOf]; exact ⟨_, _, _, rfl, rfl, b.1, b.2, by omega, by omega, q2⟩⟩
theorem ev_any (n : Nat) {cs : List Int} {sp h m : Int} {most : Nat} (h0 : 0 ≤ h) (s0 : 0 ≤ sp) (s1 : sp < 800000000) (m0 : 0 < m) (m1 : m ≤ 1000000) (hc : cs.length < 1000) (hk : most ≤ 8) : wpF (CL (n + 2) "_law_any" [.own (tapeD cs sp h), .imm (.int m), .imm (.int (most : Int))]) (AnyQ cs m most sp) := by
  refine WF_un (un__law_any _ _) rfl ?_
  have ok : okI ((most : Int) + 1) = true := by simp [okI]; omega
  have e : ((most : Int) + 1).toNat = most + 1 := by omega
  simp [den, ofE, c__law_any, pinsOf, ok, e, range_Ks]
  refine W_for (fun (k : Nat) => .int (0 + (k : Int))) (fun s : List (List Int) × Int × Int × Option Sl => [some (.own (tapeD cs s.2.1 s.2.2.1)), some (.imm (.int m)), some (.imm (.int (most : Int))), some (.own (.list (Ls s.1))), s.2.2.2, none])
    (fun ks s => (∀ k ∈ ks, k < most + 1) ∧ s.1.length + ks.length = most + 1 ∧ (∀ r ∈ s.1, r.length ≤ most + 1) ∧ sp ≤ s.2.1 ∧ s.2.1 ≤ sp + 18 * s.1.length ∧ 0 ≤ s.2.2.1)
    ([], sp, h, none) ⟨fun k hk => by simpa using hk, by simp, by simp, by simp, by simp, h0⟩ ?_ ?_
  · rintro k ks ⟨rows, p, q, z⟩ ⟨hk1, hl, hr, p0, p1, q0⟩
    have hk2 : k < most + 1 := hk1 k (List.mem_cons_self ..)
    simp only [List.length_cons] at hl p0 p1 q0
    have ok2 : okI ((most : Int) + 1 - (k : Int)) = true := by simp [okI]; omega
    have e2 : ((most : Int) + 1 - (k : Int)).toNat = most + 1 - k := by omega
    simp [ok2, e2]
    refine lc_draws n m0 m1 hc (fun s : Int × Int => [some (.own (tapeD cs s.1 s.2)), some (.imm (.int m)), some (.imm (.int (most : Int))), some (.own (.list (Ls rows))), some (.imm (.int (k : Int))), none]) q0 (by omega) (by simp; omega) ?_ ?_
    · intro t sp1 h1 h10 s10 s11
      simp
      refine W_call (ms := [true, false]) lk__law_draw rfl (ev_draw n h10 s10 (by omega) m0 m1 hc) ?_
      rintro s fin ⟨v, sp2, h2, rfl, rfl, v0, v1, p2, p3, q2⟩
      simp [back]
      refine W_call (ms := [true, false]) lk__law_draw rfl (ev_draw n q2 (by omega) (by omega) (by omega) (by omega) hc) ?_
      rintro s fin ⟨w, sp3, h3, rfl, rfl, w0, w1, p4, p5, q3⟩
      have mu : ∀ b : Int, binD .mul (.int v) (.int b) = some (.imm (.int (v * b))) := fun b => b_mulL (by omega) (by omega)
      simp [back, mu]
      by_cases ew : w = 0
      · exact .inr ⟨ew, sp3, h3, ⟨rfl, rfl⟩, v0, v1, by omega, by omega, q3⟩
      · exact .inl ⟨ew, sp3, h3, ⟨rfl, rfl⟩, m0, by omega, by omega, q3⟩
    · intro ns sp1 h1 hb hl2 p2 p3 q2
      simp at hl2 p3
      simp
      simp only [List.length_cons] at *
      refine ⟨by simp [lim]; omega, by simp [lim]; omega, rows ++ [ns], sp1, h1, ⟨⟨rfl, rfl⟩, by simp⟩, fun k hk => hk1 k (List.mem_cons_of_mem _ hk), by simp; omega, ?_, by omega, by simp; omega, q2⟩
      intro r hr2
      rcases List.mem_append.mp hr2 with z | z
      · exact hr r z
      · rw [List.mem_singleton.mp z]
        omega
  · rintro ⟨rows, p, q, z⟩ ⟨hk1, hl, hr, p0, p1, q0⟩
    simp only [List.length_nil] at hl p0 p1 q0
    simp
    have hr : ∀ r ∈ rows, r.length ≤ most + 1 := hr
    refine W_call (ms := [false, false]) lk__law_trim rfl (ev_trim n m0 (rows := rows) (fun r => .list (Zs r)) (fun r => rfl) rfl (by omega) fun r h => by have := hr r h; omega) ?_
    rintro s fin ⟨rfl, rfl⟩
    simp [back, endQ, finOf]
    refine ⟨_, _, _, rfl, rfl, trim2_red m0 rows, ?_, ?_, p0, by omega, q0⟩
    · have := trimE_len (rows.map (redI m))
      simp at this
      omega
    · intro r h
      obtain ⟨r', h', rfl⟩ := List.mem_map.mp (trimE_mem _ _ h)
      have h1 := redI_len m r'
      have h2 := hr r' h'
      omega
open Al in
theorem ev_law_add (n : Nat) {m by' : Int} (hm : 0 < m) (hby : -(2 ^ 63) < by' ∧ by' < 2 ^ 63) {A B : List (List Int)} {a b : Nat} (ha : A.length ≤ a) (hb : B.length ≤ a) (hra : ∀ r ∈ A, r.length ≤ b) (hrb : ∀ r ∈ B, r.length ≤ b) (la : a < 1000) (lb : b < 1000) :
    wpF (CL (n + 2) "_law_add" [.imm (.int m), .imm (.tuple (Ts A)), .imm (.tuple (Ts B)), .imm (.int by')]) (fun s fin => ∃ T, s = .imm (.tuple (Ts T)) ∧ fin = [.imm .none, .imm .none, .imm .none, .imm .none] ∧ Is2 m T (ofR m A + cc m by' * ofR m B) a b) := by
  refine WF_unS (un__law_add _ _) rfl ?_
  unfold c__law_add
  refine S_go ?_
  simp [den, ofE, pinsOf]
  refine S_go ?_
  have ok : okI (if A.length < B.length then (B.length : Int) else A.length) = true := by simp [okI]; split <;> omega
  have e : (if A.length < B.length then (B.length : Int) else A.length).toNat = max A.length B.length := by
    split <;> omega
  obtain ⟨P, hP⟩ : ∃ P : List Nat → List (List Int) × Option Sl × Option Sl × Option Sl × Option Sl → Prop, ∀ rest s, P rest s ↔ ∃ i, rest = (List.range (max A.length B.length)).drop i ∧ s.1.length = i ∧ i ≤ max A.length B.length ∧ (∀ r ∈ s.1, r.length ≤ b) ∧ ∀ k j, k < i → co2 s.1 k j = co2 A k j + by' * co2 B k j := ⟨_, fun _ _ => Iff.rfl⟩
  refine W_forS (fun (k : Nat) => .int (0 + (k : Int))) (fun s : List (List Int) × Option Sl × Option Sl × Option Sl × Option Sl => [some (.imm (.int m)), some (.imm (.tuple (Ts A))), some (.imm (.tuple (Ts B))), some (.imm (.int by')), some (.own (.list (Ls s.1))), s.2.1, s.2.2.1, s.2.2.2.1, s.2.2.2.2, none]) (l := List.range (max A.length B.length))
    P ([], none, none, none, none) ?_ ((hP _ _).mpr ⟨0, by simp, rfl, by omega, by simp, fun k j h => absurd h (by omega)⟩) ?_ ?_
  · simp [den, ofE, ok, e, range_Ks]
  · rintro k rest ⟨T, z1, z2, z3, z4⟩ hI
    obtain ⟨i, hr, hT, hi, hb2, hc⟩ := (hP _ _).mp hI
    have hil : i < max A.length B.length := by
      rcases Nat.lt_or_ge i (max A.length B.length) with h | h
      · exact h
      · rw [List.drop_eq_nil_of_le (by simpa using h)] at hr
        cases hr
    rw [List.drop_eq_getElem_cons (by simpa using hil)] at hr
    simp only [List.getElem_range, List.cons.injEq] at hr
    obtain ⟨rfl, rfl⟩ := hr
    have h1 := ro_len hra k
    have h2 := ro_len hrb k
    have hT : T.length = k := hT
    have hb2 : ∀ r ∈ T, r.length ≤ b := hb2
    simp [den]
    obtain ⟨f, hf⟩ : ∃ f, f = ro A k := ⟨_, rfl⟩
    obtain ⟨g, hg⟩ : ∃ g, g = ro B k := ⟨_, rfl⟩
    rw [← hf] at h1
    rw [← hg] at h2
    -- the rows, () behind the last one
    refine S_cut (fun e1 => e1 = [some (.imm (.int m)), some (.imm (.tuple (Ts A))), some (.imm (.tuple (Ts B))), some (.imm (.int by')), some (.own (.list (Ls T))), some (.imm (.int (k : Int))), some (.own (.list (Zs f))), z3, z4, none]) ?_ ?_
    · by_cases hk : k < A.length
      · have a1 : atD (Ts A) (k : Int) = some (.tuple (Zs f)) := by rw [hf]; exact at_Ts rfl hk
        simp [den, ofE, a1, hk]
      · have : f = [] := by rw [hf]; exact ro_ge (Nat.le_of_not_lt hk)
        simp [den, ofE, hk, this]
    rintro e1 rfl
    refine S_cut (fun e1 => e1 = [some (.imm (.int m)), some (.imm (.tuple (Ts A))), some (.imm (.tuple (Ts B))), some (.imm (.int by')), some (.own (.list (Ls T))), some (.imm (.int (k : Int))), some (.own (.list (Zs f))), some (.own (.list (Zs g))), z4, none]) ?_ ?_
    · by_cases hk : k < B.length
      · have a1 : atD (Ts B) (k : Int) = some (.tuple (Zs g)) := by rw [hg]; exact at_Ts rfl hk
        simp [den, ofE, a1, hk]
      · have : g = [] := by rw [hg]; exact ro_ge (Nat.le_of_not_lt hk)
        simp [den, ofE, hk, this]
    rintro e1 rfl
    refine S_go ?_
    simp [den, ofE]
    have ew : (if f.length < g.length then (g.length : Int) else f.length) = ((max f.length g.length : Nat) : Int) := by split <;> omega
    rw [ew]
    obtain ⟨w, hw⟩ : ∃ w, w = max f.length g.length := ⟨_, rfl⟩
    rw [← hw]
    have pad : ∀ l : List Int, l.length ≤ w → binD .mul (.list [.int 0]) (.int ((w : Int) - (l.length : Int))) = some (.own (.list (Zs (List.replicate (w - l.length) 0)))) := fun l hl => by
      have := b_rep (xs := [.int 0]) (k := w - l.length) (by omega) (by simp [lim]; omega)
      rw [show ((w : Int) - (l.length : Int)) = ((w - l.length : Nat) : Int) by omega, this]
      simp [Zs]
    have padA : ∀ l : List Int, l.length ≤ w → binD .add (.list (Zs l)) (.list (Zs (List.replicate (w - l.length) 0))) = some (.own (.list (Zs (l ++ List.replicate (w - l.length) 0)))) := fun l hl => by
      show (if (Zs l).length + (Zs (List.replicate (w - l.length) 0)).length ≤ lim then some (Sl.own (.list (Zs l ++ Zs (List.replicate (w - l.length) 0)))) else none) = _
      rw [if_pos (by simp [lim]; omega)]
      simp [Zs]
    have pf := pad f (by omega)
    have pf2 := padA f (by omega)
    have pg := pad g (by omega)
    have pg2 := padA g (by omega)
    simp only [List.map_replicate] at pf pf2 pg pg2
    refine S_go ?_
    simp [den, ofE, pf, pf2]
    refine ⟨by decide, ?_⟩
    refine S_go ?_
    simp [den, ofE, pg, pg2]
    refine ⟨by decide, ?_⟩
    have okw : okI (w : Int) = true := by simp [okI]; omega
    refine S_go ?_
    simp [den, ofE, okw, range_Ks]
    have pc : ∀ (l : List Int) (j : Nat), co (l ++ List.replicate (w - l.length) 0) j = co l j := fun l j => by
      unfold co
      by_cases h : j < l.length
      · simp [List.getElem?_append_left h]
      · rw [List.getD_eq_getElem?_getD, List.getElem?_append_right (Nat.le_of_not_lt h), List.getD_eq_getElem?_getD, List.getElem?_eq_none (Nat.le_of_not_lt h)]
        by_cases h2 : j - l.length < w - l.length
        · simp [h2]
        · simp [h2]
    refine W_lcM (l := List.range w) (fun (k : Nat) => .int (0 + (k : Int))) (fun j => some (.int (co f j + by' * co g j))) ?_ ?_
    · intro j hj
      have hj : j < w := by simpa using hj
      have a1 : atD (Zs (f ++ List.replicate (w - f.length) 0)) (j : Int) = some (.int (co f j)) := by
        rw [← pc f j]
        exact at_Zs rfl (by simp; omega)
      have a2 : atD (Zs (g ++ List.replicate (w - g.length) 0)) (j : Int) = some (.int (co g j)) := by
        rw [← pc g j]
        exact at_Zs rfl (by simp; omega)
      have mu : ∀ c : Int, binD .mul (.int by') (.int c) = some (.imm (.int (by' * c))) := fun c => b_mulL (by omega) (by omega)
      have e1 : Zs (f ++ List.replicate (w - f.length) 0) = Zs f ++ List.replicate (w - f.length) (PyData.int 0) := by simp [Zs]
      have e2 : Zs (g ++ List.replicate (w - g.length) 0) = Zs g ++ List.replicate (w - g.length) (PyData.int 0) := by simp [Zs]
      rw [e1] at a1
      rw [e2] at a2
      simp [a1, a2, mu, -List.getD_eq_getElem?_getD]
    · obtain ⟨r, hr⟩ : ∃ r : List Int, r = (List.range w).map fun j => co f j + by' * co g j := ⟨_, rfl⟩
      rw [show (List.range w).filterMap (fun j => some (PyData.int (co f j + by' * co g j))) = Zs r by rw [hr]; simp [Zs, Function.comp_def]]
      have hrl : r.length = w := by rw [hr]; simp
      refine ⟨by simp [lim]; omega, _, rfl, ?_⟩
      simp
      refine ⟨by simp [lim]; omega, ?_⟩
      refine S_nil ?_
      simp only [stepQ_nx]
      refine ⟨(T ++ [r], _, _, _, _), by simp; exact ⟨rfl, rfl, rfl, rfl⟩, (hP _ _).mpr ⟨k + 1, rfl, by simp; omega, hil, ?_, ?_⟩⟩
      · intro q hq
        rcases List.mem_append.mp hq with z | z
        · exact hb2 q z
        · rw [List.mem_singleton.mp z]
          omega
      · intro i j hij
        show co2 (T ++ [r]) i j = _
        have hT' : T.length = k := hT
        by_cases h : i < k
        · have e1 : ro (T ++ [r]) i = ro T i := by unfold ro; simp [List.getElem?_append_left (show i < T.length by omega)]
          unfold co2
          rw [e1]
          exact hc i j h
        · obtain rfl : i = k := by omega
          have e1 : ro (T ++ [r]) i = r := by unfold ro; rw [List.getD_eq_getElem?_getD, List.getElem?_append_right (by omega)]; simp [hT']
          unfold co2
          rw [e1, hr, co_rangeMap, ← hf, ← hg]
          by_cases hjw : j < w
          · rw [if_pos hjw]
          · rw [if_neg hjw, co_ge (L := f) (by omega), co_ge (L := g) (by omega)]
            simp
  · rintro ⟨T, z1, z2, z3, z4⟩ hI
    obtain ⟨i, hr, hT, hi, hb2, hc⟩ := (hP _ _).mp hI
    have hT : T.length = i := hT
    have hb2 : ∀ r ∈ T, r.length ≤ b := hb2
    have hi2 : max A.length B.length ≤ i := by
      have := congrArg List.length hr
      simp at this
      omega
    simp
    refine S_go ?_
    simp [den, ofE]
    refine W_call (ms := [false, false]) lk__law_trim rfl (ev_trim n hm (rows := T) (fun r => .list (Zs r)) (fun r => rfl) rfl (by omega) (fun r hr => by have := hb2 r hr; omega)) ?_
    rintro s fin ⟨rfl, rfl⟩
    have hp : ofR m T = ofR m A + cc m by' * ofR m B := Poly.ext fun k => Poly.ext fun j => by
      rw [Poly.add_c, Poly.add_c]
      show mk m (co2 T k j) = mk m (co2 A k j) + (((Poly.const (Poly.const (mk m by'))) * ofR m B).c k).c j
      rw [Poly.const_mul_c, Poly.const_mul_c]
      show mk m (co2 T k j) = mk m (co2 A k j + by' * co2 B k j)
      by_cases h : k < i
      · exact congrArg (mk m) (hc k j h)
      · unfold co2
        rw [ro_ge (A := T) (by omega), ro_ge (A := A) (by omega), ro_ge (A := B) (by omega), co_nil]
        simp
    simp [back, endQ, finOf]
    exact ⟨_, rfl, Is2.trim hm hp (by omega) hb2⟩
theorem ev_law_tableT (n : Nat) {cs : List Int} {sp h m : Int} (h0 : 0 ≤ h) (s0 : 0 ≤ sp) (s1 : sp < 800000000) (m0 : 0 < m) (m1 : m < 100000) (hc : cs.length < 1000) : wpF (CL (n + 2) "_law_table" [.own (tapeD cs sp h), .imm (.int m)]) (fun s fin => ∃ R sp' h', s = .imm (.tuple (Ts R)) ∧ fin = [.own (tapeD cs sp' h'), .imm .none] ∧ R.length ≤ 6 ∧ (∀ r ∈ R, r.length ≤ 6 ∧ Bd m r) ∧ sp ≤ sp' ∧ sp' ≤ sp + 90 ∧ 0 ≤ h') := by
  refine WF_unS (un__law_table _ _) rfl ?_
  unfold c__law_table
  refine S_go ?_
  simp [den, ofE, pinsOf]
  refine S_go ?_
  refine W_forI (fun ds e1 => ∃ (k : Nat) (sp1 h1 : Int), ds = (List.range k).map (fun i => .int (0 + (i : Int))) ∧ k ≤ 6 ∧ e1 = [some (.own (tapeD cs sp1 h1)), some (.imm (.int m)), some (.own (.list [])), none, none] ∧ sp ≤ sp1 ∧ sp1 ≤ sp + 1 ∧ 0 ≤ h1) ?_ ?_
  · simp [den, ofE]
    refine W_call (ms := [true, false]) lk__law_draw rfl (ev_draw n h0 s0 (by omega) (by omega) (by omega) hc) ?_
    rintro s fin ⟨v, sp1, h1, rfl, rfl, v0, v1, p2, p3, q2⟩
    have okv : okI v = true := by simp [okI]; omega
    simp [back, okv, range_map]
    exact ⟨v.toNat, rfl, by omega, sp1, h1, ⟨rfl, rfl⟩, p2, p3, q2⟩
  rintro ds e1 ⟨k, sp1, h1, rfl, hk, rfl, p2, p3, q2⟩
  obtain ⟨P, hP⟩ : ∃ P : Nat → List (List Int) × Int × Int × Option Sl × Option Sl → Prop, ∀ i s, P i s ↔ (s.1.length = i ∧ (∀ r ∈ s.1, r.length ≤ 6 ∧ Bd m r) ∧ sp1 ≤ s.2.1 ∧ s.2.1 ≤ sp1 + 14 * (i : Int) ∧ 0 ≤ s.2.2.1) := ⟨_, fun _ _ => Iff.rfl⟩
  refine W_forV (fun i : Nat => .int (0 + (i : Int))) (List.range k) (fun s : List (List Int) × Int × Int × Option Sl × Option Sl => [some (.own (tapeD cs s.2.1 s.2.2.1)), some (.imm (.int m)), some (.own (.list (Ts s.1))), s.2.2.2.1, s.2.2.2.2]) P ([], sp1, h1, none, none) ((hP _ _).mpr ⟨rfl, by simp, Int.le_refl _, by simp, q2⟩) ?_ ?_
  · rintro i ⟨R, p, q, z3, z4⟩ hi hI
    obtain ⟨hl, hr, p4, p5, q4⟩ := (hP _ _).mp hI
    have hl : R.length = i := hl
    have hi : i < k := by simpa using hi
    have p4 : sp1 ≤ p := p4
    have p5 : p ≤ sp1 + 14 * (i : Int) := p5
    have q4 : 0 ≤ q := q4
    simp [den]
    refine S_go ?_
    simp [den, ofE]
    refine W_call (ms := [true, false]) lk__law_draw rfl (ev_draw n q4 (by omega) (by omega) (by omega) (by omega) hc) ?_
    rintro s fin ⟨v, sp2, h2, rfl, rfl, v0, v1, p6, p7, q5⟩
    have okv : okI v = true := by simp [okI]; omega
    have ev : (v.toNat : Int) = v := by omega
    simp [back, okv, range_Ks]
    refine lc_draws n m0 (by omega) hc (fun s : Int × Int => [some (.own (tapeD cs s.1 s.2)), some (.imm (.int m)), some (.own (.list (Ts R))), some (.imm (.int (i : Int))), none]) q5 (by omega) (by simp; omega) ?_ ?_
    · intro t sp3 h3 h10 s10 s11
      simp
      refine W_call (ms := [true, false]) lk__law_draw rfl (ev_draw n h10 s10 (by omega) m0 (by omega) hc) ?_
      rintro s fin ⟨v, sp4, h4, rfl, rfl, v0, v1, p8, p9, q6⟩
      simp [back]
      refine W_call (ms := [true, false]) lk__law_draw rfl (ev_draw n q6 (by omega) (by omega) (by omega) (by omega) hc) ?_
      rintro s fin ⟨w, sp5, h5, rfl, rfl, w0, w1, p10, p11, q7⟩
      have mu : ∀ b : Int, binD .mul (.int v) (.int b) = some (.imm (.int (v * b))) := fun b => b_mulL (by omega) (by omega)
      simp [back, mu]
      by_cases ew : w = 0
      · exact .inr ⟨ew, sp5, h5, ⟨rfl, rfl⟩, v0, v1, by omega, by omega, q7⟩
      · exact .inl ⟨ew, sp5, h5, ⟨rfl, rfl⟩, m0, by omega, by omega, q7⟩
    · intro ns sp3 h3 hb hl2 p8 p9 q6
      simp at hl2 p9
      refine ⟨by simp [lim]; omega, ?_⟩
      simp
      refine ⟨by simp [lim]; omega, ?_⟩
      refine S_nil ?_
      simp only [stepQ_nx]
      refine ⟨(R ++ [ns], sp3, h3, _, _), by simp; exact ⟨rfl, rfl⟩, (hP _ _).mpr ⟨by simp; exact hl, ?_, by show sp1 ≤ sp3; omega, by show sp3 ≤ sp1 + 14 * ((i + 1 : Nat) : Int); omega, q6⟩⟩
      intro r hr2
      rcases List.mem_append.mp hr2 with z | z
      · exact hr r z
      · rw [List.mem_singleton.mp z]
        exact ⟨by omega, hb⟩
  · rintro ⟨R, p, q, z3, z4⟩ hI
    obtain ⟨hl, hr, p4, p5, q4⟩ := (hP _ _).mp hI
    have hl : R.length = (List.range k).length := hl
    have hl : R.length = k := by simpa using hl
    have p4 : sp1 ≤ p := p4
    have p5 : p ≤ sp1 + 14 * ((List.range k).length : Int) := p5
    rw [List.length_range] at p5
    have q4 : 0 ≤ q := q4
    simp only [cq_nx]
    refine S_go ?_
    simp [den, ofE, endQ, finOf]
    exact ⟨R, rfl, p, q, ⟨rfl, rfl⟩, by omega, hr, by omega, by omega, q4⟩
theorem ev_law_of_tableT (n : Nat) {m : Int} (hm : 0 < m) (hm2 : m < 100000) {R : List (List Int)} (hl : R.length ≤ 6) (hr : ∀ r ∈ R, r.length ≤ 6) : wpF (CL (n + 4) "_law_of_table" [.imm (.int m), .imm (.tuple (Ts R))]) (fun s fin => ∃ Z, s = .imm (.tuple (Ts Z)) ∧ fin = [.imm .none, .imm .none] ∧ Is2 m Z (Al.F2 m (mulT m R)) 8 8) := by
  refine WF_unS (un__law_of_table _ _) rfl ?_
  unfold c__law_of_table
  have okR : okI (R.length : Int) = true := by simp [okI]; omega
  refine S_go ?_
  simp [den, ofE, pinsOf]
  refine S_go ?_
  obtain ⟨P, hP⟩ : ∃ P : Nat → List (List Int) × Option Sl × Option Sl → Prop, ∀ i s, P i s ↔ s.1 = (mulT m R).take i := ⟨_, fun _ _ => Iff.rfl⟩
  refine W_forR 0 R.length (fun s : List (List Int) × Option Sl × Option Sl => [some (.imm (.int m)), some (.imm (.tuple (Ts R))), some (.own (.list (Ls s.1))), s.2.1, s.2.2]) P ([], none, none) ?_ ((hP _ _).mpr rfl) ?_ ?_
  · simp [den, ofE, okR]
  · rintro i ⟨F, z3, z4⟩ hi hI
    have hF : F = (mulT m R).take i := (hP _ _).mp hI
    have hFl : F.length ≤ 6 := by rw [hF, List.length_take]; omega
    obtain ⟨r, hr'⟩ : ∃ r, r = ro R i := ⟨_, rfl⟩
    have hrl : r.length ≤ 6 := by rw [hr']; exact ro_len hr i
    have a1 : atD (Ts R) (i : Int) = some (.tuple (Zs r)) := by rw [hr']; exact at_Ts rfl hi
    have okr : okI (r.length : Int) = true := by simp [okI]; omega
    simp [den]
    refine S_go ?_
    simp [den, ofE, a1, okr]
    refine W_lcR 0 r.length (fun j => .int (co r j * topI m i j)) ?_ ?_
    · intro j hj
      have a2 : atD (Zs r) (j : Int) = some (.int (co r j)) := at_Zs rfl hj
      simp [a1, a2, -List.getD_eq_getElem?_getD]
      refine W_call (ms := [false, false, false]) lk__law_top rfl (ev_law_top (n + 1) hm hm2 (i := i) (j := j) (by omega) (by omega)) ?_
      rintro s fin ⟨rfl, rfl⟩
      have t0 := top_pos hm i j
      have t1 := top_le hm i j
      have mu : binD .mul (.int (co r j)) (.int (topI m i j)) = some (.imm (.int (co r j * topI m i j))) := b_mulR (by omega) (by omega)
      simp [back, mu, a1, a2, -List.getD_eq_getElem?_getD]
    obtain ⟨g, hg⟩ : ∃ g : List Int, g = (List.range r.length).map fun j => co r j * topI m i j := ⟨_, rfl⟩
    have hgl : g.length = r.length := by rw [hg]; simp
    rw [show (List.range r.length).map (fun j => PyData.int (co r j * topI m i j)) = Zs g by rw [hg]; simp]
    refine ⟨by simp [lim]; omega, ?_⟩
    simp
    refine ⟨by simp [lim]; omega, ?_⟩
    refine S_nil ?_
    simp only [stepQ_nx]
    refine ⟨(F ++ [g], _, _), by simp; exact ⟨rfl, rfl⟩, (hP _ _).mpr ?_⟩
    show F ++ [g] = _
    rw [hF, hg, hr']
    exact take_snoc (f := fun i => (List.range (ro R i).length).map fun j => co2 R i j * topI m i j) hi
  · rintro ⟨F, z3, z4⟩ hI
    have hF : F = (mulT m R).take R.length := (hP _ _).mp hI
    rw [← mulT_len m R, List.take_length] at hF
    subst hF
    have hMl := mulT_len m R
    have hMr := mulT_row (m := m) hr
    simp
    refine S_go ?_
    simp [den, ofE]
    refine W_call (ms := [false, false]) lk__law_sum rfl (ev_law_sum (n + 1) hm (A := mulT m R) (by omega) (fun r h => by have := hMr r h; omega)) ?_
    rintro s fin ⟨rfl, rfl⟩
    simp [back, endQ, finOf]
    refine ⟨_, rfl, Is2.trim hm (Al.F2_unparts _) (by rw [show (unpartsI m (mulT m R)).length = (mulT m R).length from turnI_len ..]; omega) (fun r h => ?_)⟩
    have h1 : r.length = (widI (mulT m R)).toNat := turnI_row r h
    have h2 : (widI (mulT m R)).toNat < 7 := wid_lt (fun r hr' => by have := hMr r hr'; omega) (by omega)
    omega
end K
end Ev
end
section
namespace Ev
open PySem
namespace K
abbrev pairD (p : List (List Int) × D) : D := .tuple [.tuple (Ts p.1), p.2]
structure PairOk (p : List (List Int) × D) : Prop where
  len : p.1.length ≤ 80
  fit : Fit 2 3000000 (.tuple (Ts p.1))
  thg : ThgD p.2
theorem PairOk.fitP {p : List (List Int) × D} (h : PairOk p) : Fit 4 7000000 (pairD p) := by
  refine (Fit.tup (k := 3) (n := 3000000) (l := 2) (fun d hd => ?_) (by simp)).mono (by omega) (by omega)
  simp only [List.mem_cons, List.not_mem_nil, or_false] at hd
  rcases hd with rfl | rfl
  · exact h.fit.mono (by omega) (by omega)
  · exact h.thg.fit.mono (by omega) (by omega)
theorem PairOk.hd {p : List (List Int) × D} (h : PairOk p) : ∀ ds, p.2 = .tuple ds → ds.length < 10000 ∧ ∀ es, .tuple es ∈ ds → es.length < 10000 := fun ds e => by
  obtain ⟨h1, h2⟩ := h.thg.len ds e
  exact ⟨by omega, fun es he => by have := h2 es he; omega⟩
theorem ev_law (n : Nat) {ns : List Int} (hl : ns.length ≤ 63) : wpF (CL (n + 8) "law" [.imm (.list (Zs ns))]) (fun s fin => s = .imm (.bool true) ∧ fin = [.imm .none]) := by
  have hc : ns.length < 1000 := by omega
  refine WF_unS (un_law _ _) rfl ?_
  unfold c_law
  refine S_go ?_
  simp [den, ofE, pinsOf]
  refine W_call (ms := [false]) lk__law_tape rfl (ev_tape (n + 6) hl) ?_
  rintro s fin ⟨rfl, rfl⟩
  have ok3 : okI 3 = true := by decide
  simp [back]
  obtain ⟨P, hP⟩ : ∃ P : Nat → Int × Int × Option Sl × Option Sl × Option Sl × Option Sl × Option Sl × Option Sl × Option Sl × Option Sl × Option Sl × Option Sl × Option Sl → Prop, ∀ i s, P i s ↔ (0 ≤ s.1 ∧ s.1 ≤ 20000 * (i : Int) ∧ 0 ≤ s.2.1) := ⟨_, fun _ _ => Iff.rfl⟩
  refine S_go ?_
  refine W_forR 0 3 (fun s : Int × Int × Option Sl × Option Sl × Option Sl × Option Sl × Option Sl × Option Sl × Option Sl × Option Sl × Option Sl × Option Sl × Option Sl => [some (.imm (.list (Zs ns))), some (.own (tapeD ns s.1 s.2.1)), s.2.2.1, s.2.2.2.1, s.2.2.2.2.1, s.2.2.2.2.2.1, s.2.2.2.2.2.2.1, s.2.2.2.2.2.2.2.1, s.2.2.2.2.2.2.2.2.1, s.2.2.2.2.2.2.2.2.2.1, s.2.2.2.2.2.2.2.2.2.2.1, s.2.2.2.2.2.2.2.2.2.2.2.1, s.2.2.2.2.2.2.2.2.2.2.2.2]) P (0, 0, none, none, none, none, none, none, none, none, none, none, none) ?_ ((hP _ _).mpr ⟨by simp, by simp, by simp⟩) ?_ ?_
  · simp [den, ofE, ok3]
  · rintro k ⟨sp, h, z2, z3, z4, z5, z6, z7, z8, z9, z10, z11, z12⟩ hk hI
    obtain ⟨s0, s1, h0⟩ := (hP _ _).mp hI
    have s0 : 0 ≤ sp := s0
    have s1 : sp ≤ 20000 * (k : Int) := s1
    have h0 : 0 ≤ h := h0
    simp [den]
    refine S_go ?_
    simp [den, ofE]
    refine W_call (ms := [true, false]) lk__law_number rfl (ev_number (n + 5) h0 s0 (by omega) (by omega) (by omega) hc) ?_
    rintro s fin ⟨m, sp1, h1, rfl, rfl, m0, m1, p1, p2, q1⟩
    have hm0 : 0 < m := by omega
    have hm1 : 1 < m := by omega
    simp [back]
    refine S_go ?_
    simp [den, ofE]
    refine W_call (ms := [true, false]) lk__law_draw rfl (ev_draw (n + 6) q1 (by omega) (by omega) (by omega) (by omega) hc) ?_
    rintro s fin ⟨i, sp2, h2, rfl, rfl, i0, i1, p3, p4, q2⟩
    simp [back]
    refine W_call (ms := [true, false]) lk__law_draw rfl (ev_draw (n + 6) q2 (by omega) (by omega) (by omega) (by omega) hc) ?_
    rintro s fin ⟨j, sp3, h3, rfl, rfl, j0, j1, p5, p6, q3⟩
    obtain ⟨i, rfl⟩ : ∃ i' : Nat, i = (i' : Int) := ⟨i.toNat, by omega⟩
    obtain ⟨j, rfl⟩ : ∃ j' : Nat, j = (j' : Int) := ⟨j.toNat, by omega⟩
    simp [back]
    have t0 := top_pos hm0 i j
    have t1 := top_le hm0 i j
    have ft : Fit 0 61 (.int (topI m i j)) := Fit.int (Nat.lt_of_lt_of_le (show (topI m i j).natAbs < 1000 by omega) (by decide))
    refine S_go ?_
    refine W_ifS ?_
    simp [den, ofE]
    refine W_call (ms := [false, false, false]) lk_top2 rfl (ev_top2 (n + 5) hm0 (by omega) (i := i) (j := j) (by omega) (by omega)) ?_
    rintro s fin ⟨rfl, rfl⟩
    simp [back, ft.repr]
    refine W_call (ms := [false, false, false]) lk__law_top rfl (ev_law_top (n + 5) hm0 (by omega) (i := i) (j := j) (by omega) (by omega)) ?_
    rintro s fin ⟨rfl, rfl⟩
    simp [back, ft.repr, ft.ne]
    refine S_nil ?_
    simp only [cq_nx]
    refine S_go ?_
    simp [den, ofE]
    refine W_call (ms := [true, false]) lk__law_table rfl (ev_law_tableT (n + 5) q3 (by omega) (by omega) hm0 (by omega) hc) ?_
    rintro s fin ⟨R, sp4, h4, rfl, rfl, hRl, hRr, p7, p8, q4⟩
    simp [back]
    refine S_go ?_
    simp [den, ofE]
    refine W_call (ms := [false, false]) lk__law_of_table rfl (ev_law_of_tableT (n + 3) hm0 (by omega) (R := R) hRl fun r h => (hRr r h).1) ?_
    rintro s fin ⟨Kp, rfl, rfl, hKp⟩
    simp [back]
    refine S_go ?_
    simp [den, ofE]
    refine W_call (ms := [true, false, false]) lk__law_any rfl (ev_any (n + 5) (most := 4) q4 (by omega) (by omega) hm0 (by omega) hc (by omega)) ?_
    rintro s fin ⟨A, sp5, h5, rfl, rfl, hA, hAl, hAr, p9, p10, q5⟩
    simp [back]
    refine W_call (ms := [false, false, false, false]) lk__law_add rfl (ev_law_add (n + 5) (by' := 1) hm0 (by decide) (A := Kp) (B := A) (a := 8) (b := 8) hKp.la (by omega) hKp.lb (fun r h => by have := hAr r h; omega) (by omega) (by omega)) ?_
    rintro s fin ⟨N, rfl, rfl, hN⟩
    simp [back]
    -- the pairs
    have okI2 : ∀ {X p} {d : D}, Is2 m X p 8 8 → ThgD d → PairOk (X, d) := fun {X p d} hX hd => ⟨by have := hX.la; show X.length ≤ 80; omega, fitI2 hm0 (by omega) hX (by omega) (by omega), hd⟩
    have ok0 : ∀ {d : D}, ThgD d → PairOk ([], d) := fun {d} hd => ⟨by simp, (fitI2 (m := m) (A := []) (p := Al.ofR m []) hm0 (by omega) (a := 0) (b := 0) ⟨rfl, rfl, by simp, by simp⟩ (by omega) (by omega)), hd⟩
    have thT : ∀ {Q : List (List Int)}, Q.length ≤ 6 → (∀ r ∈ Q, r.length ≤ 6 ∧ Bd m r) → ThgD (.tuple (Ts Q)) := fun {Q} h1 h2 => ThgD.tup (rowTs (m := m) (by omega) fun r h => ⟨by have := (h2 r h).1; omega, (h2 r h).2⟩) (by simp; omega)
    have thE : ThgD (.tuple []) := ThgD.tup (fun d h => nomatch h) (by simp)
    refine S_go ?_
    simp [den, ofE]
    refine ⟨by decide, ?_⟩
    refine W_call (ms := [true, false]) lk__law_table rfl (ev_law_tableT (n + 5) q5 (by omega) (by omega) hm0 (by omega) hc) ?_
    rintro s fin ⟨R2, sp6, h6, rfl, rfl, hR2l, hR2r, p11, p12, q6⟩
    simp [back]
    refine ⟨by decide, by decide, ?_⟩
    obtain ⟨L0, hL0⟩ : ∃ L0 : List (List (List Int) × D), L0 = [(Kp, .tuple (Ts R)), (N, .tuple (Ts R)), (Kp, .tuple (Ts R2)), ([], .tuple (Ts R)), (N, .tuple []), ([], .tuple [])] := ⟨_, rfl⟩
    have e0 : [PyData.tuple [PyData.tuple (Ts Kp), PyData.tuple (Ts R)], PyData.tuple [PyData.tuple (Ts N), PyData.tuple (Ts R)], PyData.tuple [PyData.tuple (Ts Kp), PyData.tuple (Ts R2)], PyData.tuple [PyData.tuple [], PyData.tuple (Ts R)], PyData.tuple [PyData.tuple (Ts N), PyData.tuple []], PyData.tuple [PyData.tuple [], PyData.tuple []]] = L0.map pairD := by rw [hL0]; rfl
    have L0l : L0.length = 6 := by rw [hL0]; rfl
    have L0f : ∀ p ∈ L0, PairOk p := fun p hp => by
      rw [hL0] at hp
      simp only [List.mem_cons, List.not_mem_nil, or_false] at hp
      rcases hp with rfl | rfl | rfl | rfl | rfl | rfl
      · exact okI2 hKp (thT hRl hRr)
      · exact okI2 hN (thT hRl hRr)
      · exact okI2 hKp (thT hR2l hR2r)
      · exact ok0 (thT hRl hRr)
      · exact okI2 hN thE
      · exact ok0 thE
    rw [e0]
    clear e0 hL0
    obtain ⟨PP, hPP⟩ : ∃ P : Env → Prop, ∀ e1, P e1 ↔ ∃ (L : List (List (List Int) × D)) (sp7 h7 : Int) (y8 : Option Sl), e1 = [some (.imm (.list (Zs ns))), some (.own (tapeD ns sp7 h7)), some (.imm (.int (k : Int))), some (.imm (.int m)), some (.imm (.tuple (Ts R))), some (.imm (.tuple (Ts Kp))), some (.imm (.tuple (Ts N))), some (.own (.list (L.map pairD))), y8, some (.imm (.int (i : Int))), some (.imm (.int (j : Int))), z11, z12] ∧ L.length ≤ 26 ∧ (∀ p ∈ L, PairOk p) ∧ sp6 ≤ sp7 ∧ sp7 ≤ sp6 + 4 ∧ 0 ≤ h7 := ⟨_, fun _ => Iff.rfl⟩
    refine S_cut PP ?_ ?_
    · refine W_forI (fun ds e1 => ∃ (sp7 h7 : Int), e1 = [some (.imm (.list (Zs ns))), some (.own (tapeD ns sp7 h7)), some (.imm (.int (k : Int))), some (.imm (.int m)), some (.imm (.tuple (Ts R))), some (.imm (.tuple (Ts Kp))), some (.imm (.tuple (Ts N))), some (.own (.list (L0.map pairD))), z8, some (.imm (.int (i : Int))), some (.imm (.int (j : Int))), z11, z12] ∧ ds.length ≤ 20 ∧ (∀ d ∈ ds, ThgD d) ∧ sp6 ≤ sp7 ∧ sp7 ≤ sp6 + 4 ∧ 0 ≤ h7) ?_ ?_
      · simp [den, ofE]
        refine W_call (ms := [true, false, false]) lk__law_odd rfl (ev_law_odd (n + 5) q6 (by omega) (by omega) hm0 (by omega) hc (R := R) hRl hRr) ?_
        rintro s fin ⟨L, sp7, h7, rfl, rfl, hLl, hLf, p13, p14, q7⟩
        simp [back]
        exact ⟨sp7, h7, ⟨rfl, rfl⟩, hLl, hLf, p13, p14, q7⟩
      rintro ds e1 ⟨sp7, h7, rfl, hdl, hdf, p13, p14, q7⟩
      rw [show ds = ds.map fun d => d from (List.map_id' ds).symm]
      obtain ⟨P2, hP2⟩ : ∃ P : Nat → List (List (List Int) × D) × Option Sl → Prop, ∀ i s, P i s ↔ (s.1.length = 6 + i ∧ ∀ p ∈ s.1, PairOk p) := ⟨_, fun _ _ => Iff.rfl⟩
      refine W_forV (fun d : D => d) ds (fun s : List (List (List Int) × D) × Option Sl => [some (.imm (.list (Zs ns))), some (.own (tapeD ns sp7 h7)), some (.imm (.int (k : Int))), some (.imm (.int m)), some (.imm (.tuple (Ts R))), some (.imm (.tuple (Ts Kp))), some (.imm (.tuple (Ts N))), some (.own (.list (s.1.map pairD))), s.2, some (.imm (.int (i : Int))), some (.imm (.int (j : Int))), z11, z12]) P2 (L0, z8) ((hP2 _ _).mpr ⟨L0l, L0f⟩) ?_ ?_
      · rintro e ⟨L, y8⟩ he hI2
        obtain ⟨l1, l2⟩ := (hP2 _ _).mp hI2
        have l1 : L.length = 6 + e := l1
        obtain ⟨d, hd⟩ : ∃ d, d = ds[e] := ⟨_, rfl⟩
        have fd := hdf d (by rw [hd]; exact List.getElem_mem he)
        rw [← hd]
        simp [den]
        refine S_go ?_
        simp [den, ofE]
        refine ⟨by decide, by simp [lim]; omega, ?_⟩
        refine S_nil ?_
        simp only [stepQ_nx]
        refine ⟨(L ++ [(Kp, d)], _), by simp; exact rfl, (hP2 _ _).mpr ⟨by simp; omega, fun p hp => ?_⟩⟩
        rcases List.mem_append.mp hp with z | z
        · exact l2 p z
        · rw [List.mem_singleton.mp z]
          exact okI2 hKp fd
      · rintro ⟨L, y8⟩ hI2
        obtain ⟨l1, l2⟩ := (hP2 _ _).mp hI2
        have l1 : L.length = 6 + ds.length := l1
        simp only [cq_nx]
        exact (hPP _).mpr ⟨L, sp7, h7, y8, rfl, by omega, l2, p13, p14, q7⟩
    intro e1 he1
    obtain ⟨L, sp7, h7, y8, rfl, hLl, hLf, p13, p14, q7⟩ := (hPP _).mp he1
    refine S_go ?_
    refine W_forL pairD L (fun s : Option Sl × Option Sl × Option Sl => [some (.imm (.list (Zs ns))), some (.own (tapeD ns sp7 h7)), some (.imm (.int (k : Int))), some (.imm (.int m)), some (.imm (.tuple (Ts R))), some (.imm (.tuple (Ts Kp))), some (.imm (.tuple (Ts N))), some (.imm (.list (L.map pairD))), s.1, some (.imm (.int (i : Int))), some (.imm (.int (j : Int))), s.2.1, s.2.2]) (fun _ _ => True) (y8, z11, z12) ?_ trivial ?_ ?_
    · simp [den, ofE]
    · rintro e ⟨x8, x11, x12⟩ he _
      obtain ⟨p, hp⟩ : ∃ p, p = L[e] := ⟨_, rfl⟩
      have ok := hLf p (by rw [hp]; exact List.getElem_mem he)
      rw [← hp]
      have fP := ok.fitP
      have hd := ok.hd
      have pl := ok.len
      obtain ⟨B, d⟩ := p
      simp [den, W_nx, stores]
      refine S_go ?_
      have rp : biD .repr [.tuple [.tuple (Ts B), d]] = some (.imm (.str (pairD (B, d)).shown)) := fP.repr (by decide) (by decide)
      simp [den, ofE, rp]
      refine ⟨by decide, ?_⟩
      refine S_go ?_
      refine W_ifS ?_
      simp [den, ofE]
      refine W_call (ms := [false, false, false]) lk__law_told rfl (ev_law_told (n + 1) hm0 (by omega) (A := B) pl hd) ?_
      rintro s fin ⟨t, rfl, rfl, ht⟩
      have ft := ht.fit (by have : B.length ≤ 80 := pl; omega)
      simp [back, ft.repr]
      refine W_call (ms := [false, false, false]) lk__law_null_due rfl (ev_law_null_dueD (n + 4) hm1 (by omega) (A := B) pl hd) ?_
      rintro s fin ⟨t', rfl, rfl, ht'⟩
      obtain rfl := ht.eq hm0 ht'
      simp [back, ft.repr, ft.ne, rp]
      refine ⟨by decide, ?_⟩
      have ne := fP.ne
      simp [ne]
      refine S_nil ?_
      simp only [cq_nx]
      refine S_nil ?_
      simp only [stepQ_nx]
      exact ⟨(_, _, _), rfl, trivial⟩
    · rintro ⟨x8, x11, x12⟩ _
      simp
      refine S_nil ?_
      simp only [stepQ_nx]
      exact ⟨(sp7, h7, _, _, _, _, _, _, _, _, _, _, _), rfl, (hP _ _).mpr ⟨by show 0 ≤ sp7; omega, by show sp7 ≤ 20000 * ((k + 1 : Nat) : Int); omega, q7⟩⟩
  · rintro ⟨sp, h, z2, z3, z4, z5, z6, z7, z8, z9, z10, z11, z12⟩ hI
    simp
    refine S_go ?_
    simp [den, ofE, endQ, finOf]
end K
end Ev
end
section
namespace Ev
namespace K
open PySem PySem.Spec PyProof.Rows L2
theorem ok_common : Ent.ok (progX globs tab exs rfs).sg bl e_common = true := by decide +kernel
theorem ok_poly : Ent.ok (progX globs tab exs rfs).sg bl e_poly = true := by decide +kernel
theorem ok_coefficient_at : Ent.ok (progX globs tab exs rfs).sg bl e_coefficient_at = true := by decide +kernel
theorem ok_plus : Ent.ok (progX globs tab exs rfs).sg bl e_plus = true := by decide +kernel
theorem ok_times : Ent.ok (progX globs tab exs rfs).sg bl e_times = true := by decide +kernel
theorem ok_is_rest : Ent.ok (progX globs tab exs rfs).sg bl e_is_rest = true := by decide +kernel
theorem ok_poly2 : Ent.ok (progX globs tab exs rfs).sg bl e_poly2 = true := by decide +kernel
theorem ok_row_of : Ent.ok (progX globs tab exs rfs).sg bl e_row_of = true := by decide +kernel
theorem ok_rising_product : Ent.ok (progX globs tab exs rfs).sg bl e_rising_product = true := by decide +kernel
theorem ok_top2 : Ent.ok (progX globs tab exs rfs).sg bl e_top2 = true := by decide +kernel
theorem ok_all_neighbours : Ent.ok (progX globs tab exs rfs).sg bl e_all_neighbours = true := by decide +kernel
theorem ok_wide_of : Ent.ok (progX globs tab exs rfs).sg bl e_wide_of = true := by decide +kernel
theorem ok_built : Ent.ok (progX globs tab exs rfs).sg bl e_built = true := by decide +kernel
theorem ok_is_table : Ent.ok (progX globs tab exs rfs).sg bl e_is_table = true := by decide +kernel
theorem ok_row_of_tops : Ent.ok (progX globs tab exs rfs).sg bl e_row_of_tops = true := by decide +kernel
theorem ok_lets_null2 : Ent.ok (progX globs tab exs rfs).sg bl e_lets_null2 = true := by decide +kernel
theorem ok__law_tape : Ent.ok (progX globs tab exs rfs).sg bl e__law_tape = true := by decide +kernel
theorem ok__law_draw : Ent.ok (progX globs tab exs rfs).sg bl e__law_draw = true := by decide +kernel
theorem ok__law_number : Ent.ok (progX globs tab exs rfs).sg bl e__law_number = true := by decide +kernel
theorem ok__law_trim : Ent.ok (progX globs tab exs rfs).sg bl e__law_trim = true := by decide +kernel
theorem ok__law_any : Ent.ok (progX globs tab exs rfs).sg bl e__law_any = true := by decide +kernel
theorem ok__law_add : Ent.ok (progX globs tab exs rfs).sg bl e__law_add = true := by decide +kernel
theorem ok__law_gcd : Ent.ok (progX globs tab exs rfs).sg bl e__law_gcd = true := by decide +kernel
theorem ok__law_top : Ent.ok (progX globs tab exs rfs).sg bl e__law_top = true := by decide +kernel
theorem ok__law_unsplit : Ent.ok (progX globs tab exs rfs).sg bl e__law_unsplit = true := by decide +kernel
theorem ok__law_sum : Ent.ok (progX globs tab exs rfs).sg bl e__law_sum = true := by decide +kernel
theorem ok__law_is_rest : Ent.ok (progX globs tab exs rfs).sg bl e__law_is_rest = true := by decide +kernel
theorem ok__law_is_grid : Ent.ok (progX globs tab exs rfs).sg bl e__law_is_grid = true := by decide +kernel
theorem ok__law_null_due : Ent.ok (progX globs tab exs rfs).sg bl e__law_null_due = true := by decide +kernel
theorem ok__law_told : Ent.ok (progX globs tab exs rfs).sg bl e__law_told = true := by decide +kernel
theorem ok__law_table : Ent.ok (progX globs tab exs rfs).sg bl e__law_table = true := by decide +kernel
theorem ok__law_of_table : Ent.ok (progX globs tab exs rfs).sg bl e__law_of_table = true := by decide +kernel
theorem ok__law_odd : Ent.ok (progX globs tab exs rfs).sg bl e__law_odd = true := by decide +kernel
theorem ok_law : Ent.ok (progX globs tab exs rfs).sg bl e_law = true := by decide +kernel
theorem oks : tab.all (Ent.ok (progX globs tab exs rfs).sg bl) = true := List.all_eq_true.mpr (by
  intro e he
  simp only [tab, List.mem_cons, List.not_mem_nil, or_false] at he
  rcases he with rfl | rfl | rfl | rfl | rfl | rfl | rfl | rfl | rfl | rfl | rfl | rfl | rfl | rfl | rfl | rfl | rfl | rfl | rfl | rfl | rfl | rfl | rfl | rfl | rfl | rfl | rfl | rfl | rfl | rfl | rfl | rfl | rfl | rfl
  · exact ok_common
  · exact ok_poly
  · exact ok_coefficient_at
  · exact ok_plus
  · exact ok_times
  · exact ok_is_rest
  · exact ok_poly2
  · exact ok_row_of
  · exact ok_rising_product
  · exact ok_top2
  · exact ok_all_neighbours
  · exact ok_wide_of
  · exact ok_built
  · exact ok_is_table
  · exact ok_row_of_tops
  · exact ok_lets_null2
  · exact ok__law_tape
  · exact ok__law_draw
  · exact ok__law_number
  · exact ok__law_trim
  · exact ok__law_any
  · exact ok__law_add
  · exact ok__law_gcd
  · exact ok__law_top
  · exact ok__law_unsplit
  · exact ok__law_sum
  · exact ok__law_is_rest
  · exact ok__law_is_grid
  · exact ok__law_null_due
  · exact ok__law_told
  · exact ok__law_table
  · exact ok__law_of_table
  · exact ok__law_odd
  · exact ok_law)

theorem xok : exs.all XEnt.ok = true := by decide +kernel
abbrev R : PySem.W.OpenRow := PySem.W.OpenLaw.row PySem.Challenge.rw_shufflerests_k76_null_papers_of_two_lett
abbrev hk : PySem.W.Hook := hookY 4 (faOf globs tab bl exs rfe) (fnOf tab exs rfe) (fun K => exB exs K && rfB rfe exs K)
def ob (s : PySem.W.SharedT) : He.AlX := obsY 4 (faOf globs tab bl exs rfe) (fnOf tab exs rfe) (fun K => exB exs K && rfB rfe exs K) (HandSHeadRun.getT s)
theorem ob_eq (s : PySem.W.SharedT) : ob s = hk.obs s.abs := obsY_eq (HandSHeadRun.getT_eq s)
def loose : List PySem.Str := (["RestError", "NoText", "NoPaper", "NoShuffle", "TooMany", "NoLift", "NoRow", "NoName"] : List PySem.Str) ++ (["common", "poly", "coefficient_at", "plus", "times", "is_rest", "poly2", "row_of"] : List PySem.Str) ++ (["MOST_ROWS", "rising_product", "top2", "all_neighbours", "wide_of", "built", "is_table", "row_of_tops"] : List PySem.Str) ++ (["lets_null2", "_law_tape", "_law_draw", "_law_number", "_law_trim", "_law_any", "_law_add", "_law_gcd"] : List PySem.Str) ++ (["_law_top", "_law_unsplit", "_law_sum", "_law_is_rest", "_law_is_grid", "_law_null_due", "_law_refused", "_law_told"] : List PySem.Str) ++ (["_law_table", "_law_of_table", "_law_odd"] : List PySem.Str)
theorem run (w : World) : HandSHeadRun.RunEq R (PySem.W.view R.prog [49]) hk ob 5000 loose w := by
  intro os
  kernel_rfl
theorem plain : ∀ ns : List Int, ns.length ≤ 63 → ∃ fin, evFn (progX globs tab exs rfs) 20 "law" [.imm (.list (ns.map PyData.int))] = .ok (.imm (.bool true)) fin := fun ns hl => by
  obtain ⟨s, fin, e, rfl, _⟩ := wpF_get (ev_law 12 hl)
  rw [CL_eq] at e
  exact ⟨fin, e⟩
end K
end Ev
open PySem PySem.W PySem.Calls PyProof.Rows
theorem PySem.Challenge.cw_shufflerests_k76_null_papers_of_two_lett_holds : PySem.Challenge.rw_shufflerests_k76_null_papers_of_two_lett.Holds := by
  w_on; o_law
  refine HandSHeadRun.head_any (r := OpenLaw.row PySem.Challenge.rw_shufflerests_k76_null_papers_of_two_lett) (q := view (OpenLaw.row PySem.Challenge.rw_shufflerests_k76_null_papers_of_two_lett).prog [49]) (H := Ev.K.hk) (ob := Ev.K.ob) (M := 5000) (loose := Ev.K.loose) (d := HandSHeadRun.topDef (OpenLaw.row PySem.Challenge.rw_shufflerests_k76_null_papers_of_two_lett).prog 49) (kwd := []) Ev.K.ob_eq
    (by kernel_rfl) (fun s => by kernel_rfl) Ev.K.run (by kernel_rfl) (by kernel_rfl) (by kernel_rfl) (by rfl) (by first | assumption | decide +kernel) (by decide +kernel) ⟨rfl, rfl, rfl, rfl, rfl, by decide +kernel⟩ ?hw ?hc
  case hw => w_witness2
  case hc =>
    refine Ev.walk_ev (l := PySem.Challenge.rw_shufflerests_k76_null_papers_of_two_lett) (n := 63) (k := 20 + 3) (x := "_law_script") rfl (by decide) (by kernel_rfl) ⟨rfl, by decide, by decide⟩ ?F
    intro w mg fa h Y G hmg0
    obtain ⟨K, KX, c⟩ := Y
    have hmg : mg ("law" : PySem.Str) = some (.ref fa) := by
      have e : (HandSHeadRun.topDef (OpenLaw.row PySem.Challenge.rw_shufflerests_k76_null_papers_of_two_lett).prog 49).name = ("law" : PySem.Str) := by kernel_rfl
      rw [← e]
      exact hmg0
    exact Ev.law_end (e := Ev.K.e_law) (refs := Ev.K.rfs) (rf := Ev.K.rfe) rfl (by decide +kernel) KX G c hmg (by decide +kernel) (by decide +kernel) Ev.K.oks Ev.K.xok (by simp [Ev.K.tab]) rfl rfl Ev.K.plain
end
