import PyProof.Rows.All
import Wide.Call
import PyProof.StrBlockL
import PyProof.P3Statements
import PySem.Str
import PyProof.TableCode
import PyProof.CompFree
import PyProof.ListOps
import PyProof.TupleOps
import PyProof.RaisesMany
import PyProof.DefCall
import PyProof.NoPylong
import PyProof.TupleKey
import PyProof.DictKinds
import PyProof.P3Eq
import PyProof.FactsAll.NoneType_1
import PyProof.Cells
import PyProof.Ns1
import OpenK.KCall
import PyProof.DictRoadsH
import PyProof.DictRoads
import PyProof.DictCalls
import PyProof.Rows.PlainObj
import KE.KDictList
import PyProof.ToksMono
import PyProof.Rows.SortStr
import PyProof.Rows.SortShell
import PyProof.WalkInts
import PyProof.InstLoad
import PyProof.ObjNew
import PyProof.Rows.PlainNoArg
import PyProof.Rows.AttrNodeAny
import PyProof.InstStore
import PyProof.InstStoreFacts
import PyProof.AssignAttr
import PyProof.ListIndex
import PyProof.EnumStmt
import Open.Head
import Wide.All
import OpenK.AllK
import Wide.FinOn
import PyProof.Rows.TopObj
import PySem.Challenge.RW_uf010036_11
set_option Elab.async false
set_option tactic.hygienic false
set_option backward.match.sparseCases false
set_option linter.unusedVariables false
set_option linter.unusedSimpArgs false
set_option maxRecDepth 100000
set_option maxHeartbeats 4000000

section
set_option genSizeOf false
set_option genInjectivity false
namespace Mine
open PySem
inductive D where
  | none
  | bool (b : Bool)
  | int (i : Int)
  | str (x : Str)
  | tuple (ds : List D)
  | list (ds : List D)
  | dict (kvs : List (Str × D))
  | range (a b : Int)
  | loc (n : Nat)
inductive Kd where
  | none
  | int (i : Int)
  | str (x : Str)
  | tup (l : List Kd)
mutual
noncomputable def Kd.dep : Kd -> Nat
  | .tup l => Kd.deps l + 1
  | _ => 0
noncomputable def Kd.deps : List Kd -> Nat
  | [] => 0
  | k :: l => max k.dep (Kd.deps l)
end
mutual
noncomputable def kdIn : D -> Option Kd
  | .int i => some (.int i)
  | .str x => some (.str x)
  | .tuple ds => (kdIns ds).map .tup
  | _ => Option.none
noncomputable def kdIns : List D -> Option (List Kd)
  | [] => some []
  | d :: ds => match kdIn d, kdIns ds with
    | some k, some ks => some (k :: ks)
    | _, _ => Option.none
end
noncomputable def kdOf : D -> Option Kd
  | .none => some .none
  | d => kdIn d
mutual
noncomputable def kdD : Kd -> D
  | .none => .none
  | .int i => .int i
  | .str x => .str x
  | .tup l => .tuple (kdDs l)
noncomputable def kdDs : List Kd -> List D
  | [] => []
  | k :: l => kdD k :: kdDs l
end
inductive SObj where
  | list (ds : List D)
  | inst (c : Str) (dn : Nat)
  | ns (fs : List (Str × D))
  | tab (hp : Bool) (kvs : List (Kd × D))
noncomputable abbrev Store := List SObj
inductive Out (α : Type) where
  | ok (a : α) (S : Store)
  | stuck
noncomputable abbrev EM (α : Type) := Store -> Out α
noncomputable abbrev CF := Str -> List D -> EM D
noncomputable def ret {α : Type} (a : α) : EM α := fun S => .ok a S
noncomputable def stk {α : Type} : EM α := fun _ => .stuck
noncomputable def bnd {α β : Type} (m : EM α) (f : α -> EM β) : EM β := fun S => match m S with
  | .ok a S' => f a S'
  | .stuck => .stuck
noncomputable abbrev calm {α : Type} (m : EM α) : EM α := m
noncomputable def optM {α : Type} (o : Option α) : EM α := match o with
  | some a => ret a
  | none => stk
structure Fn where
  params : List Str
  body : List Stmt
  scope : Scope
structure MImpl where
  ok : Store -> D -> Bool
  run : D -> List D -> EM D
  id : D -> String
structure BImpl where
  val : Value
  run : Bool -> List D -> EM D
structure Cfg where
  fns : List (Str × Fn)
  consts : List (Str × D)
  own : Pos -> Bool := fun _ => false
  turns : Nat := 2 ^ 30
  meths : List (Str × MImpl) := []
  bfs : List (Str × BImpl) := []
  att : Str -> Str -> Bool := fun _ _ => false
  tab0 : Pos -> Bool := fun _ => false
  cfs : List (Str × Fn) := []
  clss : List Str := []
mutual
noncomputable def D.py : D -> Option PyData
  | .none => some .none
  | .bool b => some (.bool b)
  | .int i => some (.int i)
  | .str x => some (.str x)
  | .tuple ds => (D.pys ds).map .tuple
  | .list ds => (D.pys ds).map .list
  | .dict _ | .range _ _ | .loc _ => Option.none
noncomputable def D.pys : List D -> Option (List PyData)
  | [] => some []
  | d :: ds => match D.py d, D.pys ds with
    | some p, some ps => some (p :: ps)
    | _, _ => Option.none
end
noncomputable def pyAt (_ : Store) (d : D) : Option PyData := d.py
noncomputable def slot : List (Str × NameKind) -> Str -> Option (Nat × NameKind)
  | [], _ => none
  | (y, k) :: r, x => if x == y then some (0, k) else match slot r x with
    | some (i, k) => some (i + 1, k)
    | none => none
noncomputable abbrev Sg := List (Option D)
noncomputable def lk (σ : Sg) (i : Nat) : EM D := match σ[i]? with
  | some (some d) => ret d
  | _ => stk
noncomputable def put (σ : Sg) (i : Nat) (d : D) : Sg := σ.set i (some d)
noncomputable def nameD (C : Cfg) (sc : Scope) (σ : Sg) (x : Str) : EM D := if x == ("__debug__" : Str) then stk else match slot sc.names x with
  | some (i, .local) => lk σ i
  | some (i, .cell) => lk σ i
  | some (_, .globalImplicit) => optM (C.consts.lookup x)
  | _ => stk
noncomputable def isGlobal (sc : Scope) (x : Str) : Bool := if x == ("__debug__" : Str) then false else match slot sc.names x with
  | some (_, .globalImplicit) => true
  | _ => false
noncomputable def listOf (S : Store) : D -> Option (List D)
  | .list ds => some ds
  | .loc n => match S[n]? with
    | some (.list ds) => some ds
    | _ => none
  | _ => none
noncomputable def truth (_ : Store) : D -> Option Bool
  | .bool b => some b
  | _ => none
noncomputable def truthM (d : D) : EM Bool := fun S => optM (truth S d) S
noncomputable def mkList (C : Cfg) (pos : Pos) (ds : List D) : EM D :=
  if C.own pos then fun S => .ok (.loc S.length) (S ++ [.list ds]) else ret (.list ds)
noncomputable def mkL (own : Bool) (ds : List D) : EM D := if own then fun S => .ok (.loc S.length) (S ++ [.list ds]) else ret (.list ds)
noncomputable def small (i : Int) : Bool := decide (i.natAbs < 2 ^ 62)
noncomputable def addLists (C : Cfg) (pos : Pos) (a b : D) : EM D := fun S => match listOf S a, listOf S b with
  | some xs, some ys => if xs.length + ys.length <= sizeLine then mkList C pos (xs ++ ys) S else .stuck
  | _, _ => .stuck
noncomputable def onInts {β : Type} (a b : D) (k : Int -> Int -> EM β) (z : EM β) : EM β := match a with
  | .int i => (match b with
    | .int j => k i j
    | _ => z)
  | _ => z
noncomputable def onStrs {β : Type} (a b : D) (k : Str -> Str -> EM β) (z : EM β) : EM β := match a with
  | .str i => (match b with
    | .str j => k i j
    | _ => z)
  | _ => z
noncomputable def binop (C : Cfg) (pos : Pos) (op : Operator) (a b : D) : EM D := match op with
  | .Add => onInts a b (fun i j => ret (.int (i + j))) (onStrs a b (fun x y => if x.length + y.length <= sizeLine then ret (.str (x ++ y)) else stk) (addLists C pos a b))
  | .Sub => onInts a b (fun i j => ret (.int (i - j))) stk
  | .Mult => onInts a b (fun i j => if small i && small j then ret (.int (i * j)) else stk) stk
  | .FloorDiv => onInts a b (fun i j => if j = 0 then stk else ret (.int (i.fdiv j))) stk
  | .Mod => onInts a b (fun i j => if j = 0 then stk else ret (.int (i.fmod j))) stk
  | _ => stk
noncomputable def unop (op : UnaryOp) (a : D) : EM D := match op with
  | .USub => (match a with
    | .int i => ret (.int (-i))
    | _ => stk)
  | .Not => bnd (truthM a) fun b => ret (.bool (!b))
  | _ => stk
noncomputable def lineOf (p q : PyData) : Bool := decide (min p.depth q.depth <= 600)
noncomputable def eqM (a b : D) : EM Bool := fun S => match pyAt S a, pyAt S b with
  | some p, some q => if lineOf p q then .ok (PyData.eqv p q) S else .stuck
  | _, _ => .stuck
noncomputable def anyEq (ps : List PyData) (q : PyData) : Option Bool :=
  if decide (min (PyData.depthAll ps) q.depth <= 600) then some (ps.any fun p => PyData.eqv p q) else none
noncomputable def inL (ds : List D) (a : D) : EM Bool := fun S => match D.pys ds with
  | some ps => (match pyAt S a with
    | some q => optM (anyEq ps q) S
    | none => .stuck)
  | none => .stuck
noncomputable def tabOf (S : Store) : D -> Option (Bool × List (Kd × D))
  | .loc n => (match S[n]? with
    | some (.tab hp kvs) => some (hp, kvs)
    | _ => none)
  | _ => none
noncomputable def tabFit (hp : Bool) (k : Kd) : Bool := match k with
  | .tup _ => hp && decide (k.dep <= 8)
  | .str _ => false
  | _ => !hp
noncomputable def tabKey (hp : Bool) (d : D) : Option Kd := match kdOf d with
  | some k => if tabFit hp k then some k else none
  | none => none
open Classical in
noncomputable def tabAt (kvs : List (Kd × D)) (k : Kd) : Option D := (kvs.find? fun p => decide (p.1 = k)).map (·.2)
open Classical in
noncomputable def tabPut (kvs : List (Kd × D)) (k : Kd) (d : D) : List (Kd × D) :=
  if (tabAt kvs k).isSome then kvs.map (fun p => if p.1 = k then (p.1, d) else p) else kvs ++ [(k, d)]
noncomputable def tabIn (hp : Bool) (kvs : List (Kd × D)) (a : D) : EM Bool := match tabKey hp a with
  | some k => ret (tabAt kvs k).isSome
  | none => stk
noncomputable def tabItem (hp : Bool) (kvs : List (Kd × D)) (a : D) : EM D := match tabKey hp a with
  | some k => optM (tabAt kvs k)
  | none => stk
noncomputable def inM0 (a b : D) : EM Bool := match b with
  | .tuple ds => inL ds a
  | .list ds => inL ds a
  | .loc n => fun S => (match listOf S (.loc n) with
    | some ds => inL ds a S
    | none => .stuck)
  | _ => stk
noncomputable def inM (a b : D) : EM Bool := fun S => match tabOf S b with
  | some t => tabIn t.1 t.2 a S
  | none => inM0 a b S
noncomputable def isM (a b : D) : EM Bool := match b with
  | .none => (match a with
    | .none => ret true
    | _ => ret false)
  | _ => stk
noncomputable def cmpM (op : CmpOp) (a b : D) : EM Bool := match op with
  | .Eq => eqM a b
  | .NotEq => bnd (eqM a b) fun c => ret (!c)
  | .Lt => onInts a b (fun i j => ret (decide (i < j))) stk
  | .Gt => onInts a b (fun i j => ret (decide (j < i))) stk
  | .Is => isM a b
  | .IsNot => bnd (isM a b) fun c => ret (!c)
  | .In => inM a b
  | .NotIn => bnd (inM a b) fun c => ret (!c)
  | _ => stk
noncomputable def clip (v : Option Int) (dflt : Nat) (n : Nat) : Nat := match v with
  | none => dflt
  | some i => (max 0 (min (if i < 0 then i + n else i) n)).toNat
noncomputable def cut {α : Type} (lo hi : Option Int) (l : List α) : List α :=
  (l.drop (clip lo 0 l.length)).take (clip hi l.length l.length - clip lo 0 l.length)
noncomputable def partOf : D -> Option (Option Int)
  | .none => some none
  | .int i => some (some i)
  | _ => none
noncomputable def sliceM (C : Cfg) (pos : Pos) (a lo hi : D) : EM D := fun S => match partOf lo, partOf hi with
  | some l, some h => (match a with
    | .str x => .ok (.str ⟨(cut l h x.cps.toList).toArray⟩) S
    | a => (match listOf S a with
      | some ds => mkList C pos (cut l h ds) S
      | none => .stuck))
  | _, _ => .stuck
noncomputable def rangeL (a b : Int) : List D := (List.range (b - a).toNat).map fun (k : Nat) => D.int (a + (k : Int))
noncomputable def itemsOf : D -> Option (List D)
  | .tuple ds => some ds
  | .list ds => some ds
  | .range a b => if decide (-1000000000 <= a) && decide (a <= 1000000000) && decide (-1000000000 <= b) && decide (b - a <= 16777216) then some (rangeL a b) else none
  | _ => none
inductive Bf where
  | len | range | all | tuple | list | int
noncomputable def bfOf (x : Str) : Option Bf :=
  if x == "len" then some .len else if x == "range" then some .range else if x == "all" then some .all else if x == "tuple" then some .tuple else if x == "list" then some .list else if x == "int" then some .int else none
noncomputable def lenM (a : D) : EM D := fun S => match a with
  | .tuple ds => .ok (.int ds.length) S
  | a => (match listOf S a with
    | some ds => .ok (.int ds.length) S
    | none => .stuck)
noncomputable def boolsOf : List D -> Option (List Bool)
  | [] => some []
  | .bool b :: ds => match boolsOf ds with
    | some bs => some (b :: bs)
    | none => none
  | _ :: _ => none
noncomputable def strsOf : List D -> Option (List Str)
  | [] => some []
  | .str b :: ds => match strsOf ds with
    | some bs => some (b :: bs)
    | none => none
  | _ :: _ => none
noncomputable def on1 (args : List D) (k : D -> EM D) : EM D := match args with
  | [a] => k a
  | _ => stk
noncomputable def onList (a : D) (k : List D -> EM D) : EM D := fun S => match listOf S a with
  | some ds => k ds S
  | none => .stuck
noncomputable def onTup (a : D) (k : List D -> EM D) (z : EM D) : EM D := match a with
  | .tuple ds => k ds
  | _ => z
noncomputable def range1M : D -> EM D
  | .int b => ret (.range 0 b)
  | _ => stk
noncomputable def rangeM (args : List D) : EM D := match args with
  | [b] => range1M b
  | [a, b] => onInts a b (fun i j => ret (.range i j)) stk
  | _ => stk
noncomputable def intM (a : D) : EM D := match a with
  | .bool b => ret (.int (if b then 1 else 0))
  | _ => stk
noncomputable def listB (C : Cfg) (pos : Pos) (a : D) : EM D := fun S => match tabOf S a with
  | some t => if t.2.length <= 1000 then mkList C pos (t.2.map fun p => kdD p.1) S else .stuck
  | none => onTup a (fun ds => mkList C pos ds) (onList a fun ds => mkList C pos ds) S
noncomputable def bfM (C : Cfg) (pos : Pos) (f : Bf) (args : List D) : EM D := match f with
  | .len => on1 args lenM
  | .range => rangeM args
  | .all => on1 args fun a => onList a fun ds => optM ((boolsOf ds).map fun bs => .bool (bs.all id))
  | .tuple => on1 args fun a => onTup a (fun ds => ret (.tuple ds)) (onList a fun ds => ret (.tuple ds))
  | .list => on1 args fun a => listB C pos a
  | .int => on1 args intM
noncomputable def setS (S : Store) (n : Nat) (o : SObj) : Store := S.set n o
noncomputable def methK (i : MImpl) (a : D) : EM Unit := fun S => if i.ok S a then .ok () S else .stuck
noncomputable def isStrD : D -> Bool
  | .str _ => true
  | _ => false
noncomputable def onStr (a : D) (k : Str -> EM D) (z : EM D) : EM D := match a with
  | .str x => k x
  | _ => z
noncomputable def joinM (sep : Str) (xs : List D) : EM D := match strsOf xs with
  | some ys => if JoinOk sep ys then ret (.str (Txt.join sep ys)) else stk
  | none => stk
noncomputable def mJoin : MImpl := ⟨fun _ a => isStrD a, fun a ds => onStr a (fun sep => on1 ds fun b => onList b fun xs => joinM sep xs) stk, fun _ => "str.join"⟩
noncomputable def strIndex (y x : Str) : Option Nat := (Builtin.Str.occurrences y x 0 y.length 1).head?
noncomputable def isListD (S : Store) (a : D) : Bool := (listOf S a).isSome
noncomputable def indexL (q : PyData) : List PyData -> Option Nat
  | [] => none
  | p :: r => if PyData.eqv p q then some 0 else (indexL q r).map (· + 1)
noncomputable def lIndex (ds : List D) (a : D) : EM D := fun S => match D.pys ds with
  | some ps => (match pyAt S a with
    | some q => (match anyEq ps q with
      | some _ => optM ((indexL q ps).map fun k => D.int k) S
      | none => .stuck)
    | none => .stuck)
  | none => .stuck
noncomputable def mIndex : MImpl := ⟨fun S a => isStrD a || isListD S a, fun a ds => on1 ds fun b => onStr a (fun y => onStr b (fun x => optM ((strIndex y x).map fun k => .int k)) stk) (onList a fun es => lIndex es b), fun a => if isStrD a then "str.index" else "list.index"⟩
noncomputable def isLocL (S : Store) : D -> Bool
  | .loc n => (match S[n]? with
    | some (.list _) => true
    | _ => false)
  | _ => false
noncomputable def appendM (a d : D) : EM D := fun S => match a with
  | .loc n => (match S[n]? with
    | some (.list ds) => if ds.length < sizeLine then .ok .none (setS S n (.list (ds ++ [d]))) else .stuck
    | _ => .stuck)
  | _ => .stuck
noncomputable def mAppend : MImpl := ⟨isLocL, fun a ds => on1 ds fun d => appendM a d, fun _ => "list.append"⟩
noncomputable def leS (x y : Str) : Bool := !decide (y.cps.toList < x.cps.toList)
noncomputable def insS (x : Str) : List Str -> List Str
  | [] => [x]
  | y :: r => if leS x y then x :: y :: r else y :: insS x r
noncomputable def sortS : List Str -> List Str
  | [] => []
  | x :: r => insS x (sortS r)
noncomputable def itemL (ds : List D) (k : Int) : EM D := optM ((seqIndex? k ds.length).bind (ds[·]?))
noncomputable def itemS (x : Str) (k : Int) : EM D := optM (((seqIndex? k x.length).bind (x.cps[·]?)).map fun c => .str ⟨#[c]⟩)
noncomputable def itemD (a : D) (x : Str) : EM D := match a with
  | .dict kvs => optM (kvs.lookup x)
  | _ => stk
noncomputable def itemM0 (a i : D) : EM D := match i with
  | .int k => onTup a (fun ds => itemL ds k) (onStr a (fun x => itemS x k) (onList a fun ds => itemL ds k))
  | .str x => itemD a x
  | _ => stk
noncomputable def itemM (a i : D) : EM D := fun S => match tabOf S a with
  | some t => tabItem t.1 t.2 i S
  | none => itemM0 a i S
noncomputable def mGet1 : MImpl := ⟨fun S a => (tabOf S a).isSome, fun a ds => on1 ds fun x => fun S => match tabOf S a with
  | some t => (match tabKey t.1 x with
    | some k => .ok ((tabAt t.2 k).getD .none) S
    | none => .stuck)
  | none => .stuck, fun _ => "dict.get"⟩
noncomputable def intsOf : List D -> Option (List Int)
  | [] => some []
  | .int b :: ds => match intsOf ds with
    | some bs => some (b :: bs)
    | none => none
  | _ :: _ => none
noncomputable def insI (x : Int) : List Int -> List Int
  | [] => [x]
  | y :: r => if x <= y then x :: y :: r else y :: insI x r
noncomputable def sortI : List Int -> List Int
  | [] => []
  | x :: r => insI x (sortI r)
inductive Fl where
  | next (σ : Sg)
  | ret (d : D)
noncomputable def forL (body : D -> Sg -> EM Fl) : List D -> Sg -> EM Fl
  | [], σ => ret (.next σ)
  | d :: r, σ => bnd (calm (body d σ)) fun f => match f with
    | .next σ' => forL body r σ'
    | .ret v => ret (.ret v)
noncomputable def whileL (test : Sg -> EM Bool) (body : Sg -> EM Fl) : Nat -> Sg -> EM Fl
  | 0, _ => stk
  | n + 1, σ => bnd (test σ) fun b => if b then bnd (calm (body σ)) fun f => (match f with
    | .next σ' => whileL test body n σ'
    | .ret v => ret (.ret v)) else ret (.next σ)
noncomputable def compL (turn : D -> EM (Option D)) : List D -> EM (List D)
  | [] => ret []
  | d :: r => bnd (turn d) fun x => bnd (compL turn r) fun ys => ret (match x with
    | some y => y :: ys
    | none => ys)
noncomputable def compSg (sc : Scope) (σ : Sg) : List (Str × NameKind) -> Sg
  | [] => []
  | (x, k) :: r => (match k with
    | .free => (match slot sc.names x with
      | some (i, .cell) => (σ[i]?).join
      | _ => none)
    | _ => none) :: compSg sc σ r
noncomputable def compSc (sc scope : Scope) : Scope := { scope with names := scope.names.map fun (n, k) => if k == .free && sc.kind == .function && sc.names.lookup n == some .cell then (n, .cell) else (n, k) }
noncomputable def compOk (sc scope : Scope) : Bool := scope.kind == .function && scope.names.all fun p =>
  p.2 != .cell && (p.2 != .local || scope.names.lookup p.1 == some .local) && (p.2 != .free || (match slot sc.names p.1 with
    | some (_, .cell) => true
    | _ => false))
noncomputable def nameE : Expr -> Option Str
  | .Name x _ => some x
  | _ => none
noncomputable def namesOf : List Expr -> Option (List Str)
  | [] => some []
  | e :: r => (nameE e).bind fun x => (namesOf r).map (x :: ·)
noncomputable def putName (sc : Scope) (σ : Sg) (x : Str) (d : D) : Option Sg := match slot sc.names x with
  | some (i, .local) => some (put σ i d)
  | some (i, .cell) => some (put σ i d)
  | _ => none
noncomputable def putAll (sc : Scope) : List Str -> List D -> Sg -> Option Sg
  | [], [], σ => some σ
  | x :: xs, d :: ds, σ => (putName sc σ x d).bind (putAll sc xs ds)
  | _, _, _ => none
noncomputable def seqOf : D -> Option (List D)
  | .tuple ds => some ds
  | .list ds => some ds
  | _ => none
noncomputable def notCall : Expr -> Bool
  | .Call .. => false
  | _ => true
noncomputable def notComp : Expr -> Bool
  | .ListComp .. => false
  | .SetComp .. => false
  | .DictComp .. => false
  | _ => true
noncomputable def plainU : Expr -> Bool
  | .SetComp .. => false
  | .DictComp .. => false
  | .Tuple .. => false
  | _ => true
noncomputable def noStar (as : List Expr) : Bool := as.all fun e => match e with
  | .Starred _ _ => false
  | _ => true
noncomputable def strC : Expr -> Option Str
  | .Constant (.str x) _ _ => if PyData.strOk x && decide (x.length <= sizeLine) then some x else none
  | _ => none
noncomputable def bName (sc : Scope) (σ : Sg) : Expr -> Option Bool
  | .Name x _ => if x == ("__debug__" : Str) then none else (match slot sc.names x with
    | some (i, .local) => (match σ[i]? with
      | some (some (.bool b)) => some b
      | _ => none)
    | _ => none)
  | _ => none
noncomputable def bNot (sc : Scope) (σ : Sg) : Expr -> Option Bool
  | .UnaryOp .Not e _ => (bName sc σ e).map (!·)
  | e => bName sc σ e
noncomputable def bOp : BoolOp -> Bool -> Bool -> Bool
  | .And, a, b => a && b
  | .Or, a, b => a || b
noncomputable def bE (sc : Scope) (σ : Sg) : Expr -> Option Bool
  | .BoolOp op [a, b] _ => (bNot sc σ a).bind fun x => (bNot sc σ b).map fun y => bOp op x y
  | _ => none
noncomputable def litV (sc : Scope) (σ : Sg) (e : Expr) : Option D := (bE sc σ e).map .bool
noncomputable def dictLit (sc : Scope) (σ : Sg) : List (Option Expr) -> List Expr -> Option (List (Str × D))
  | [], [] => some []
  | some k :: ks, v :: vs => (strC k).bind fun x => (litV sc σ v).bind fun y => (dictLit sc σ ks vs).map ((x, y) :: ·)
  | _, _ => none
noncomputable def dictM (sc : Scope) (σ : Sg) (keys : List (Option Expr)) (values : List Expr) : EM D := match dictLit sc σ keys values with
  | some kvs => if !kvs.isEmpty && decide (kvs.length <= 15) && decide (kvs.map (·.1)).Nodup then ret (.dict kvs) else stk
  | none => stk
noncomputable def mkTab (hp : Bool) : EM D := fun S => .ok (.loc S.length) (S ++ [.tab hp []])
noncomputable def dictE (C : Cfg) (pos : Pos) (sc : Scope) (σ : Sg) (keys : List (Option Expr)) (values : List Expr) : EM D :=
  if keys.isEmpty && values.isEmpty then (if C.own pos then mkTab true else if C.tab0 pos then mkTab false else stk) else dictM sc σ keys values
noncomputable def mname (c m : Str) : Str := c ++ ("." : Str) ++ m
noncomputable def instOf (S : Store) : D -> Option (Str × List (Str × D))
  | .loc n => (match S[n]? with
    | some (.inst c dn) => (match S[dn]? with
      | some (.ns fs) => some (c, fs)
      | _ => none)
    | _ => none)
  | _ => none
noncomputable def methOk (C : Cfg) (c m : Str) : Bool := C.clss.contains c && (C.cfs.lookup (mname c m)).isSome && (C.fns.lookup (mname c m)).isNone
noncomputable def clsM (C : Cfg) (a : D) (m : Str) : EM Str := fun S => match instOf S a with
  | some p => if methOk C p.1 m && (p.2.lookup m).isNone then .ok (mname p.1 m) S else .stuck
  | none => .stuck
noncomputable def isNoneD : D -> Bool
  | .none => true
  | _ => false
noncomputable def newM (C : Cfg) (cf : CF) (x : Str) (ds : List D) : EM D := fun S =>
  if methOk C x "__init__" then
    (match cf (mname x "__init__") (.loc (S.length + 1) :: ds) (S ++ [.ns [], .inst x S.length]) with
    | .ok d S' => if isNoneD d then .ok (.loc (S.length + 1)) S' else .stuck
    | _ => .stuck) else .stuck
noncomputable def attrM (C : Cfg) (a : D) (x : Str) : EM D := fun S => match a with
  | .loc n => (match S[n]? with
    | some (.inst c dn) => (match S[dn]? with
      | some (.ns fs) => if C.clss.contains c && C.att c x then optM (fs.lookup x) S else .stuck
      | _ => .stuck)
    | _ => .stuck)
  | _ => .stuck
noncomputable def callC (C : Cfg) (cf : CF) (x : Str) (pos : Pos) (as : EM (List D)) : EM D := match C.fns.lookup x with
  | some _ => bnd as fun ds => calm (cf x ds)
  | none => (match bfOf x with
    | some b => bnd as fun ds => bfM C pos b ds
    | none => (match C.bfs.lookup x with
      | some i => bnd as fun ds => i.run (C.own pos) ds
      | none => if C.clss.contains x then bnd as fun ds => newM C cf x ds else stk))
mutual
noncomputable def ev (C : Cfg) (cf : CF) : Expr -> Scope -> Sg -> EM D
  | .Constant c _ _, _, _ => (match c with
    | .none => ret .none
    | .bool b => ret (.bool b)
    | .int i => ret (.int i)
    | .str x => if PyData.strOk x && decide (x.length <= sizeLine) then ret (.str x) else stk
    | _ => stk)
  | .Name x _, sc, σ => nameD C sc σ x
  | .BoolOp op vs _, sc, σ => evBool C cf op vs sc σ
  | .BinOp l op r pos, sc, σ => bnd (ev C cf l sc σ) fun a => bnd (ev C cf r sc σ) fun b => binop C pos op a b
  | .UnaryOp op x _, sc, σ => bnd (ev C cf x sc σ) fun a => unop op a
  | .Compare l ops rs _, sc, σ => bnd (ev C cf l sc σ) fun a => bnd (evCmp C cf a ops rs sc σ) fun b => ret (.bool b)
  | .Tuple es _ _, sc, σ => bnd (evAll C cf es sc σ) fun ds => if ds.length <= sizeLine then ret (.tuple ds) else stk
  | .List es pos, sc, σ => bnd (evAll C cf es sc σ) fun ds => if ds.length <= sizeLine then mkList C pos ds else stk
  | .Subscript v sl pos, sc, σ => bnd (ev C cf v sc σ) fun a => evSub C cf sl sc σ a pos (ev C cf sl sc σ)
  | .Attribute o m _, sc, σ => (match o with
    | .Name y _ => bnd (nameD C sc σ y) fun a => attrM C a m
    | _ => stk)
  | .Dict keys values pos, sc, σ => dictE C pos sc σ keys values
  | .ListComp elt gens scope pos, sc, σ => evComp C cf gens sc σ pos scope fun σ' => ev C cf elt (compSc sc scope) σ'
  | .Call f as kws pos, sc, σ => (match kws with
    | [] => if noStar as then (match f with
      | .Name x _ => if isGlobal sc x then callC C cf x pos (evAll C cf as sc σ) else stk
      | .Attribute o m apos => if apos.endLine == pos.line && notCall o && decide (as.length < 20) then (match C.meths.lookup m with
        | some i => bnd (ev C cf o sc σ) fun a => bnd (methK i a) fun _ => bnd (evAll C cf as sc σ) fun ds => i.run a ds
        | none => bnd (ev C cf o sc σ) fun a => bnd (clsM C a m) fun f => bnd (evAll C cf as sc σ) fun ds => calm (cf f (a :: ds))) else stk
      | _ => stk) else stk
    | _ => stk)
  | _, _, _ => stk
noncomputable def evAll (C : Cfg) (cf : CF) : List Expr -> Scope -> Sg -> EM (List D)
  | [], _, _ => ret []
  | e :: r, sc, σ => bnd (ev C cf e sc σ) fun d => bnd (evAll C cf r sc σ) fun ds => ret (d :: ds)
noncomputable def evBool (C : Cfg) (cf : CF) : BoolOp -> List Expr -> Scope -> Sg -> EM D
  | _, [], _, _ => stk
  | _, [e], sc, σ => ev C cf e sc σ
  | op, e :: r, sc, σ => bnd (ev C cf e sc σ) fun a => bnd (truthM a) fun t => match op with
    | .And => (match t with
      | true => evBool C cf .And r sc σ
      | false => ret a)
    | .Or => (match t with
      | true => ret a
      | false => evBool C cf .Or r sc σ)
noncomputable def evCmp (C : Cfg) (cf : CF) : D -> List CmpOp -> List Expr -> Scope -> Sg -> EM Bool
  | a, [op], [e], sc, σ => bnd (ev C cf e sc σ) fun b => cmpM op a b
  | _, _, _, _, _ => stk
noncomputable def evSub (C : Cfg) (cf : CF) : Expr -> Scope -> Sg -> D -> Pos -> EM D -> EM D
  | .Slice lo hi st _, sc, σ, a, pos, _ => (match st with
    | none => bnd (evOpt C cf lo sc σ) fun l => bnd (evOpt C cf hi sc σ) fun h => sliceM C pos a l h
    | some _ => stk)
  | _, _, _, a, _, whole => bnd whole fun i => itemM a i
noncomputable def evOpt (C : Cfg) (cf : CF) : Option Expr -> Scope -> Sg -> EM D
  | none, _, _ => ret .none
  | some e, sc, σ => ev C cf e sc σ
noncomputable def evComp (C : Cfg) (cf : CF) : List Comprehension -> Scope -> Sg -> Pos -> Scope -> (Sg -> EM D) -> EM D
  | [⟨t, iter, ifs, a⟩], sc, σ, pos, scope, elt => bnd (optM (nameE t)) fun x => if a == 0 then (if compOk sc scope then bnd (ev C cf iter sc σ) fun it => bnd (optM (itemsOf it)) fun ds =>
      (match slot scope.names x with
      | some (i, .local) => bnd (compL (fun d => bnd (evTAll C cf .And ifs (compSc sc scope) (put (compSg sc σ scope.names) i d)) fun ok =>
          if ok then bnd (elt (put (compSg sc σ scope.names) i d)) fun y => ret (some y) else ret none) ds) fun ys => mkList C pos ys
      | _ => stk) else stk) else stk
  | _, _, _, _, _, _ => stk
noncomputable def evT (C : Cfg) (cf : CF) : Expr -> Scope -> Sg -> EM D -> EM Bool
  | .UnaryOp .Not x _, sc, σ, _ => bnd (evT C cf x sc σ (ev C cf x sc σ)) fun b => ret (!b)
  | .BoolOp op vs _, sc, σ, _ => evTAll C cf op vs sc σ
  | .Compare l ops rs _, sc, σ, _ => bnd (ev C cf l sc σ) fun a => evCmp C cf a ops rs sc σ
  | .IfExp _ _ _ _, _, _, _ => stk
  | _, _, _, whole => bnd whole truthM
noncomputable def evTAll (C : Cfg) (cf : CF) : BoolOp -> List Expr -> Scope -> Sg -> EM Bool
  | op, [], _, _ => ret (op == .And)
  | op, e :: r, sc, σ => bnd (evT C cf e sc σ (ev C cf e sc σ)) fun t => match op with
    | .And => (match t with
      | true => evTAll C cf .And r sc σ
      | false => ret false)
    | .Or => (match t with
      | true => ret true
      | false => evTAll C cf .Or r sc σ)
end
noncomputable def notSlice : Expr -> Bool
  | .Slice .. => false
  | _ => true
noncomputable def setItemM0 (a k d : D) : EM Unit := fun S => match a with
  | .loc n => (match k with
    | .int i => (match S[n]? with
      | some (.list ds) => if decide (0 <= i) && decide (i < (ds.length : Int)) then .ok () (setS S n (.list (ds.set i.toNat d))) else .stuck
      | _ => .stuck)
    | _ => .stuck)
  | _ => .stuck
noncomputable def setTab (a : D) (t : Bool × List (Kd × D)) (k d : D) : EM Unit := fun S => match a with
  | .loc n => (match tabKey t.1 k with
    | some k => if t.2.length < 4000000 then .ok () (setS S n (.tab t.1 (tabPut t.2 k d))) else .stuck
    | none => .stuck)
  | _ => .stuck
noncomputable def setItemM (a k d : D) : EM Unit := fun S => match tabOf S a with
  | some t => setTab a t k d S
  | none => setItemM0 a k d S
noncomputable def setAttrM (C : Cfg) (a : D) (x : Str) (d : D) : EM Unit := fun S => match a with
  | .loc n => (match S[n]? with
    | some (.inst c dn) => (match S[dn]? with
      | some (.ns fs) => if C.clss.contains c && C.att c x && decide (fs.length < 100) then .ok () (setS S dn (.ns ((x, d) :: fs))) else .stuck
      | _ => .stuck)
    | _ => .stuck)
  | _ => .stuck
noncomputable def callE1 : Expr -> Option (Expr × List Expr × List Keyword)
  | .Call f as kws _ => some (f, as, kws)
  | _ => none
noncomputable def one1 : List Expr -> Option Expr
  | [e] => some e
  | _ => none
noncomputable def two1 : List Expr -> Option (Expr × Expr)
  | [a, b] => some (a, b)
  | _ => none
noncomputable def enumE (e : Expr) : Option Expr := (callE1 e).bind fun q => (nameE q.1).bind fun g => if g == "enumerate" && q.2.2.isEmpty then one1 q.2.1 else none
noncomputable def pairE (es : List Expr) : Option (Str × Str) := (two1 es).bind fun q => (nameE q.1).bind fun x => (nameE q.2).map fun y => (x, y)
noncomputable def onFz (a : D) (k : List D -> EM Fl) : EM Fl := match a with
  | .list ds => k ds
  | _ => stk
noncomputable def forE (body : Nat -> D -> Sg -> EM Fl) : Nat -> List D -> Sg -> EM Fl
  | _, [], σ => ret (.next σ)
  | i, d :: r, σ => bnd (calm (body i d σ)) fun f => match f with
    | .next σ' => forE body (i + 1) r σ'
    | .ret v => ret (.ret v)
noncomputable def asgE (C : Cfg) (cf : CF) (v : Expr) (sc : Scope) (σ : Sg) : Expr -> EM Fl
  | .Name x _ => bnd (ev C cf v sc σ) fun d => bnd (optM (putName sc σ x d)) fun σ' => ret (.next σ')
  | .Tuple es _ _ => if plainU v then bnd (optM (namesOf es)) fun xs => bnd (ev C cf v sc σ) fun d => bnd (optM (seqOf d)) fun ds => bnd (optM (putAll sc xs ds σ)) fun σ' => ret (.next σ') else stk
  | .Attribute o m _ => bnd (optM (nameE o)) fun y => if notComp v then bnd (ev C cf v sc σ) fun d => bnd (nameD C sc σ y) fun a => bnd (setAttrM C a m d) fun _ => ret (.next σ) else stk
  | .Subscript o i _ => if notComp v && notSlice i then bnd (ev C cf v sc σ) fun d => bnd (ev C cf o sc σ) fun a => bnd (ev C cf i sc σ) fun k => bnd (setItemM a k d) fun _ => ret (.next σ) else stk
  | _ => stk
mutual
noncomputable def ex (C : Cfg) (cf : CF) : Stmt -> Scope -> Sg -> EM Fl
  | .Pass _, _, σ => ret (.next σ)
  | .Return v _, sc, σ => (match v with
    | some e => bnd (ev C cf e sc σ) fun d => ret (.ret d)
    | none => ret (.ret .none))
  | .Expr e _, sc, σ => if notComp e then bnd (ev C cf e sc σ) fun _ => ret (.next σ) else stk
  | .Assign ts v _, sc, σ => (match ts with
    | [t] => asgE C cf v sc σ t
    | _ => stk)
  | .If t b o _, sc, σ => bnd (evT C cf t sc σ (ev C cf t sc σ)) fun c => if c then exs C cf b sc σ else exs C cf o sc σ
  | .For t iter body orelse _, sc, σ => (match t, orelse with
    | .Name x _, [] => bnd (ev C cf iter sc σ) fun it => bnd (optM (itemsOf it)) fun ds =>
        forL (fun d σ => bnd (optM (putName sc σ x d)) fun σ' => exs C cf body sc σ') ds σ
    | .Tuple es _ _, [] => bnd (optM (pairE es)) fun p => bnd (optM (enumE iter)) fun e => if isGlobal sc "enumerate" then bnd (ev C cf e sc σ) fun a => onFz a fun ds =>
          forE (fun i d σ => bnd (optM (putName sc σ p.1 (.int i))) fun σ1 => bnd (optM (putName sc σ1 p.2 d)) fun σ' => exs C cf body sc σ') 0 ds σ else stk
    | _, _ => stk)
  | .While t body orelse _, sc, σ => (match orelse with
    | [] => whileL (fun σ => evT C cf t sc σ (ev C cf t sc σ)) (fun σ => exs C cf body sc σ) C.turns σ
    | _ => stk)
  | _, _, _ => stk
noncomputable def exs (C : Cfg) (cf : CF) : List Stmt -> Scope -> Sg -> EM Fl
  | [], _, σ => ret (.next σ)
  | s :: r, sc, σ => bnd (ex C cf s sc σ) fun f => match f with
    | .next σ' => exs C cf r sc σ'
    | .ret d => ret (.ret d)
end
noncomputable def bindSg (ps : List Str) (ds : List D) : List (Str × NameKind) -> Sg
  | [] => []
  | (x, _) :: r => ((ps.zip ds).lookup x) :: bindSg ps ds r
noncomputable def runFn (C : Cfg) (cf : CF) (fn : Fn) (ds : List D) : EM D :=
  if ds.length == fn.params.length then bnd (exs C cf fn.body fn.scope (bindSg fn.params ds fn.scope.names)) fun f => match f with
    | .ret d => ret d
    | .next _ => ret .none
  else stk
noncomputable def fnLook (C : Cfg) (f : Str) : Option Fn := match C.fns.lookup f with
  | some fn => some fn
  | none => C.cfs.lookup f
noncomputable def callF (C : Cfg) : Nat -> Str -> List D -> EM D
  | 0, _, _ => stk
  | n + 1, f, ds => match fnLook C f with
    | some fn => runFn C (callF C n) fn ds
    | none => stk
noncomputable def fnsOf : List Stmt -> List (Str × Fn)
  | [] => []
  | .FunctionDef name args body _ _ _ scope _ _ _ :: r => (name, ⟨args.args.map (·.arg), body, scope⟩) :: fnsOf r
  | _ :: r => fnsOf r
end Mine
end

section
namespace Mine
open PySem
noncomputable section
noncomputable def andM (m k : EM Bool) : EM Bool := bnd m fun t => match t with
  | true => k
  | false => ret false
noncomputable def orM (m k : EM Bool) : EM Bool := bnd m fun t => match t with
  | true => ret true
  | false => k
noncomputable def orV (m k : EM D) : EM D := bnd m fun a => bnd (truthM a) fun t => match t with
  | true => ret a
  | false => k
noncomputable def ifM (m : EM Bool) (a b : EM Fl) : EM Fl := bnd m fun c => if c then a else b
noncomputable def seqM (m : EM Fl) (k : Sg -> EM Fl) : EM Fl := bnd m fun f => match f with
  | .next σ => k σ
  | .ret d => ret (.ret d)
noncomputable def consM (m : EM D) (k : EM (List D)) : EM (List D) := bnd m fun d => bnd k fun ds => ret (d :: ds)
noncomputable def tupM (m : EM (List D)) : EM D := bnd m fun ds => if ds.length <= sizeLine then ret (.tuple ds) else stk
noncomputable def cfg0 : Cfg := { fns := [], consts := [] }
noncomputable def pos0 : Pos := ⟨0, 0, 0, 0⟩
noncomputable def bin0 (op : Operator) (a b : D) : EM D := binop cfg0 pos0 op a b
noncomputable def bf0 (f : Bf) (ds : List D) : EM D := bfM cfg0 pos0 f ds
noncomputable def sli0 (a lo hi : D) : EM D := sliceM cfg0 pos0 a lo hi
noncomputable def lst0 (m : EM (List D)) : EM D := bnd m fun ds => if ds.length <= sizeLine then mkList cfg0 pos0 ds else stk
noncomputable def finM (m : EM Fl) : EM D := bnd m fun f => match f with
  | .ret d => ret d
  | .next _ => ret .none
noncomputable def forM' (m : EM D) (body : D -> Sg -> EM Fl) (σ : Sg) : EM Fl := bnd m fun it => bnd (optM (itemsOf it)) fun ds => forL body ds σ
noncomputable def comp0 (m : EM D) (turn : D -> EM (Option D)) : EM D := bnd m fun it => bnd (optM (itemsOf it)) fun ds => bnd (compL turn ds) fun ys => mkList cfg0 pos0 ys
noncomputable def turnS (t : EM Bool) (e : EM D) : EM (Option D) := bnd t fun ok => if ok then bnd e fun y => ret (some y) else ret none
noncomputable def cmpS (op : CmpOp) (l r : EM D) : EM Bool := bnd l fun a => bnd r fun b => cmpM op a b
noncomputable def subS (v i : EM D) : EM D := bnd v fun a => bnd i fun i => itemM a i
noncomputable def sliS (v lo hi : EM D) : EM D := bnd v fun a => bnd lo fun l => bnd hi fun h => sli0 a l h
noncomputable def binS (op : Operator) (l r : EM D) : EM D := bnd l fun a => bnd r fun b => bin0 op a b
noncomputable def methS (i : MImpl) (o : EM D) (as : EM (List D)) : EM D := bnd o fun a => bnd (methK i a) fun _ => bnd as fun ds => i.run a ds
noncomputable def cmpB (op : CmpOp) (l r : EM D) : EM D := bnd l fun a => bnd (bnd r fun b => cmpM op a b) fun c => ret (.bool c)
noncomputable def putIs : List Nat -> List D -> Sg -> Option Sg
  | [], [], σ => some σ
  | i :: is, d :: ds, σ => putIs is ds (put σ i d)
  | _, _, _ => none
noncomputable def asgT (is : List Nat) (σ : Sg) (v : EM D) : EM Fl := bnd v fun d => bnd (optM (seqOf d)) fun ds => bnd (optM (putIs is ds σ)) fun σ' => ret (.next σ')
noncomputable def callN (cf : CF) (f : Str) (m : EM (List D)) : EM D := bnd m fun ds => calm (cf f ds)
noncomputable def nxt (σ : Sg) : EM Fl := ret (.next σ)
noncomputable def bfS (i : BImpl) (own : Bool) (m : EM (List D)) : EM D := bnd m fun ds => i.run own ds
noncomputable def lstO' (m : EM (List D)) : EM D := bnd m fun ds => if ds.length <= sizeLine then mkL true ds else stk
noncomputable def compO (m : EM D) (turn : D -> EM (Option D)) : EM D := bnd m fun it => bnd (optM (itemsOf it)) fun ds => bnd (compL turn ds) fun ys => mkL true ys
noncomputable def attS (C : Cfg) (m : Str) (x : EM D) : EM D := bnd x fun a => attrM C a m
noncomputable def oMeth (C : Cfg) (cf : CF) (m : Str) (o : EM D) (as : EM (List D)) : EM D := bnd o fun a => bnd (clsM C a m) fun f => bnd as fun ds => calm (cf f (a :: ds))
noncomputable def newS (C : Cfg) (cf : CF) (x : Str) (as : EM (List D)) : EM D := bnd as fun ds => newM C cf x ds
noncomputable def forEM (m : EM D) (body : Nat -> D -> Sg -> EM Fl) (σ : Sg) : EM Fl := bnd m fun a => onFz a fun ds => forE body 0 ds σ
end
noncomputable def defsOf (c : Str) : List Stmt -> List (Str × Fn)
  | [] => []
  | .FunctionDef name args body _ _ _ scope _ _ _ :: r => (mname c name, ⟨args.args.map (·.arg), body, scope⟩) :: defsOf c r
  | _ :: r => defsOf c r
noncomputable def cfsOf : List Stmt -> List (Str × Fn)
  | [] => []
  | .ClassDef name _ _ body _ _ _ _ _ _ _ :: r => defsOf name body ++ cfsOf r
  | _ :: r => cfsOf r
end Mine
end

section
namespace Mine
theorem ob02 {P0 P1 : Prop} {G : Prop} (h : P0 /\ P1) (k : P0 -> P1 -> G) : G :=
  k h.1 h.2
theorem ob03 {P0 P1 P2 : Prop} {G : Prop} (h : P0 /\ P1 /\ P2) (k : P0 -> P1 -> P2 -> G) : G :=
  k h.1 h.2.1 h.2.2
theorem ob04 {P0 P1 P2 P3 : Prop} {G : Prop} (h : P0 /\ P1 /\ P2 /\ P3) (k : P0 -> P1 -> P2 -> P3 -> G) : G :=
  k h.1 h.2.1 h.2.2.1 h.2.2.2
theorem ob06 {P0 P1 P2 P3 P4 P5 : Prop} {G : Prop} (h : P0 /\ P1 /\ P2 /\ P3 /\ P4 /\ P5) (k : P0 -> P1 -> P2 -> P3 -> P4 -> P5 -> G) : G :=
  k h.1 h.2.1 h.2.2.1 h.2.2.2.1 h.2.2.2.2.1 h.2.2.2.2.2
theorem ob11 {α : Sort _} {P0 : α -> Prop} {G : Prop} (h : ∃ a, P0 a) (k : ∀ a, P0 a -> G) : G :=
  Exists.elim h fun a h => k a h
theorem ob12 {α : Sort _} {P0 P1 : α -> Prop} {G : Prop} (h : ∃ a, P0 a /\ P1 a) (k : ∀ a, P0 a -> P1 a -> G) : G :=
  Exists.elim h fun a h => k a h.1 h.2
theorem ob13 {α : Sort _} {P0 P1 P2 : α -> Prop} {G : Prop} (h : ∃ a, P0 a /\ P1 a /\ P2 a) (k : ∀ a, P0 a -> P1 a -> P2 a -> G) : G :=
  Exists.elim h fun a h => k a h.1 h.2.1 h.2.2
theorem ob14 {α : Sort _} {P0 P1 P2 P3 : α -> Prop} {G : Prop} (h : ∃ a, P0 a /\ P1 a /\ P2 a /\ P3 a) (k : ∀ a, P0 a -> P1 a -> P2 a -> P3 a -> G) : G :=
  Exists.elim h fun a h => k a h.1 h.2.1 h.2.2.1 h.2.2.2
theorem ob15 {α : Sort _} {P0 P1 P2 P3 P4 : α -> Prop} {G : Prop} (h : ∃ a, P0 a /\ P1 a /\ P2 a /\ P3 a /\ P4 a) (k : ∀ a, P0 a -> P1 a -> P2 a -> P3 a -> P4 a -> G) : G :=
  Exists.elim h fun a h => k a h.1 h.2.1 h.2.2.1 h.2.2.2.1 h.2.2.2.2
theorem ob21 {α β : Sort _} {P0 : α -> β -> Prop} {G : Prop} (h : ∃ a b, P0 a b) (k : ∀ a b, P0 a b -> G) : G :=
  Exists.elim h fun a h => Exists.elim h fun b h => k a b h
theorem ob22 {α β : Sort _} {P0 P1 : α -> β -> Prop} {G : Prop} (h : ∃ a b, P0 a b /\ P1 a b) (k : ∀ a b, P0 a b -> P1 a b -> G) : G :=
  Exists.elim h fun a h => Exists.elim h fun b h => k a b h.1 h.2
theorem ob23 {α β : Sort _} {P0 P1 P2 : α -> β -> Prop} {G : Prop} (h : ∃ a b, P0 a b /\ P1 a b /\ P2 a b) (k : ∀ a b, P0 a b -> P1 a b -> P2 a b -> G) : G :=
  Exists.elim h fun a h => Exists.elim h fun b h => k a b h.1 h.2.1 h.2.2
theorem ob24 {α β : Sort _} {P0 P1 P2 P3 : α -> β -> Prop} {G : Prop} (h : ∃ a b, P0 a b /\ P1 a b /\ P2 a b /\ P3 a b) (k : ∀ a b, P0 a b -> P1 a b -> P2 a b -> P3 a b -> G) : G :=
  Exists.elim h fun a h => Exists.elim h fun b h => k a b h.1 h.2.1 h.2.2.1 h.2.2.2
theorem ob25 {α β : Sort _} {P0 P1 P2 P3 P4 : α -> β -> Prop} {G : Prop} (h : ∃ a b, P0 a b /\ P1 a b /\ P2 a b /\ P3 a b /\ P4 a b) (k : ∀ a b, P0 a b -> P1 a b -> P2 a b -> P3 a b -> P4 a b -> G) : G :=
  Exists.elim h fun a h => Exists.elim h fun b h => k a b h.1 h.2.1 h.2.2.1 h.2.2.2.1 h.2.2.2.2
theorem ob26 {α β : Sort _} {P0 P1 P2 P3 P4 P5 : α -> β -> Prop} {G : Prop} (h : ∃ a b, P0 a b /\ P1 a b /\ P2 a b /\ P3 a b /\ P4 a b /\ P5 a b) (k : ∀ a b, P0 a b -> P1 a b -> P2 a b -> P3 a b -> P4 a b -> P5 a b -> G) : G :=
  Exists.elim h fun a h => Exists.elim h fun b h => k a b h.1 h.2.1 h.2.2.1 h.2.2.2.1 h.2.2.2.2.1 h.2.2.2.2.2
theorem ob31 {α β γ : Sort _} {P0 : α -> β -> γ -> Prop} {G : Prop} (h : ∃ a b c, P0 a b c) (k : ∀ a b c, P0 a b c -> G) : G :=
  Exists.elim h fun a h => Exists.elim h fun b h => Exists.elim h fun c h => k a b c h
theorem ob32 {α β γ : Sort _} {P0 P1 : α -> β -> γ -> Prop} {G : Prop} (h : ∃ a b c, P0 a b c /\ P1 a b c) (k : ∀ a b c, P0 a b c -> P1 a b c -> G) : G :=
  Exists.elim h fun a h => Exists.elim h fun b h => Exists.elim h fun c h => k a b c h.1 h.2
theorem ob33 {α β γ : Sort _} {P0 P1 P2 : α -> β -> γ -> Prop} {G : Prop} (h : ∃ a b c, P0 a b c /\ P1 a b c /\ P2 a b c) (k : ∀ a b c, P0 a b c -> P1 a b c -> P2 a b c -> G) : G :=
  Exists.elim h fun a h => Exists.elim h fun b h => Exists.elim h fun c h => k a b c h.1 h.2.1 h.2.2
theorem ob34 {α β γ : Sort _} {P0 P1 P2 P3 : α -> β -> γ -> Prop} {G : Prop} (h : ∃ a b c, P0 a b c /\ P1 a b c /\ P2 a b c /\ P3 a b c) (k : ∀ a b c, P0 a b c -> P1 a b c -> P2 a b c -> P3 a b c -> G) : G :=
  Exists.elim h fun a h => Exists.elim h fun b h => Exists.elim h fun c h => k a b c h.1 h.2.1 h.2.2.1 h.2.2.2
theorem ob35 {α β γ : Sort _} {P0 P1 P2 P3 P4 : α -> β -> γ -> Prop} {G : Prop} (h : ∃ a b c, P0 a b c /\ P1 a b c /\ P2 a b c /\ P3 a b c /\ P4 a b c) (k : ∀ a b c, P0 a b c -> P1 a b c -> P2 a b c -> P3 a b c -> P4 a b c -> G) : G :=
  Exists.elim h fun a h => Exists.elim h fun b h => Exists.elim h fun c h => k a b c h.1 h.2.1 h.2.2.1 h.2.2.2.1 h.2.2.2.2
theorem ob36 {α β γ : Sort _} {P0 P1 P2 P3 P4 P5 : α -> β -> γ -> Prop} {G : Prop} (h : ∃ a b c, P0 a b c /\ P1 a b c /\ P2 a b c /\ P3 a b c /\ P4 a b c /\ P5 a b c) (k : ∀ a b c, P0 a b c -> P1 a b c -> P2 a b c -> P3 a b c -> P4 a b c -> P5 a b c -> G) : G :=
  Exists.elim h fun a h => Exists.elim h fun b h => Exists.elim h fun c h => k a b c h.1 h.2.1 h.2.2.1 h.2.2.2.1 h.2.2.2.2.1 h.2.2.2.2.2
theorem ob41 {α β γ δ : Sort _} {P0 : α -> β -> γ -> δ -> Prop} {G : Prop} (h : ∃ a b c d, P0 a b c d) (k : ∀ a b c d, P0 a b c d -> G) : G :=
  Exists.elim h fun a h => Exists.elim h fun b h => Exists.elim h fun c h => Exists.elim h fun d h => k a b c d h
theorem ob43 {α β γ δ : Sort _} {P0 P1 P2 : α -> β -> γ -> δ -> Prop} {G : Prop} (h : ∃ a b c d, P0 a b c d /\ P1 a b c d /\ P2 a b c d) (k : ∀ a b c d, P0 a b c d -> P1 a b c d -> P2 a b c d -> G) : G :=
  Exists.elim h fun a h => Exists.elim h fun b h => Exists.elim h fun c h => Exists.elim h fun d h => k a b c d h.1 h.2.1 h.2.2
theorem ob44 {α β γ δ : Sort _} {P0 P1 P2 P3 : α -> β -> γ -> δ -> Prop} {G : Prop} (h : ∃ a b c d, P0 a b c d /\ P1 a b c d /\ P2 a b c d /\ P3 a b c d) (k : ∀ a b c d, P0 a b c d -> P1 a b c d -> P2 a b c d -> P3 a b c d -> G) : G :=
  Exists.elim h fun a h => Exists.elim h fun b h => Exists.elim h fun c h => Exists.elim h fun d h => k a b c d h.1 h.2.1 h.2.2.1 h.2.2.2
theorem ob45 {α β γ δ : Sort _} {P0 P1 P2 P3 P4 : α -> β -> γ -> δ -> Prop} {G : Prop} (h : ∃ a b c d, P0 a b c d /\ P1 a b c d /\ P2 a b c d /\ P3 a b c d /\ P4 a b c d) (k : ∀ a b c d, P0 a b c d -> P1 a b c d -> P2 a b c d -> P3 a b c d -> P4 a b c d -> G) : G :=
  Exists.elim h fun a h => Exists.elim h fun b h => Exists.elim h fun c h => Exists.elim h fun d h => k a b c d h.1 h.2.1 h.2.2.1 h.2.2.2.1 h.2.2.2.2
theorem ob46 {α β γ δ : Sort _} {P0 P1 P2 P3 P4 P5 : α -> β -> γ -> δ -> Prop} {G : Prop} (h : ∃ a b c d, P0 a b c d /\ P1 a b c d /\ P2 a b c d /\ P3 a b c d /\ P4 a b c d /\ P5 a b c d) (k : ∀ a b c d, P0 a b c d -> P1 a b c d -> P2 a b c d -> P3 a b c d -> P4 a b c d -> P5 a b c d -> G) : G :=
  Exists.elim h fun a h => Exists.elim h fun b h => Exists.elim h fun c h => Exists.elim h fun d h => k a b c d h.1 h.2.1 h.2.2.1 h.2.2.2.1 h.2.2.2.2.1 h.2.2.2.2.2
theorem ob53 {α β γ δ ε : Sort _} {P0 P1 P2 : α -> β -> γ -> δ -> ε -> Prop} {G : Prop} (h : ∃ a b c d e, P0 a b c d e /\ P1 a b c d e /\ P2 a b c d e) (k : ∀ a b c d e, P0 a b c d e -> P1 a b c d e -> P2 a b c d e -> G) : G :=
  Exists.elim h fun a h => Exists.elim h fun b h => Exists.elim h fun c h => Exists.elim h fun d h => Exists.elim h fun e h => k a b c d e h.1 h.2.1 h.2.2
theorem ob54 {α β γ δ ε : Sort _} {P0 P1 P2 P3 : α -> β -> γ -> δ -> ε -> Prop} {G : Prop} (h : ∃ a b c d e, P0 a b c d e /\ P1 a b c d e /\ P2 a b c d e /\ P3 a b c d e) (k : ∀ a b c d e, P0 a b c d e -> P1 a b c d e -> P2 a b c d e -> P3 a b c d e -> G) : G :=
  Exists.elim h fun a h => Exists.elim h fun b h => Exists.elim h fun c h => Exists.elim h fun d h => Exists.elim h fun e h => k a b c d e h.1 h.2.1 h.2.2.1 h.2.2.2
theorem ob55 {α β γ δ ε : Sort _} {P0 P1 P2 P3 P4 : α -> β -> γ -> δ -> ε -> Prop} {G : Prop} (h : ∃ a b c d e, P0 a b c d e /\ P1 a b c d e /\ P2 a b c d e /\ P3 a b c d e /\ P4 a b c d e) (k : ∀ a b c d e, P0 a b c d e -> P1 a b c d e -> P2 a b c d e -> P3 a b c d e -> P4 a b c d e -> G) : G :=
  Exists.elim h fun a h => Exists.elim h fun b h => Exists.elim h fun c h => Exists.elim h fun d h => Exists.elim h fun e h => k a b c d e h.1 h.2.1 h.2.2.1 h.2.2.2.1 h.2.2.2.2
theorem ob56 {α β γ δ ε : Sort _} {P0 P1 P2 P3 P4 P5 : α -> β -> γ -> δ -> ε -> Prop} {G : Prop} (h : ∃ a b c d e, P0 a b c d e /\ P1 a b c d e /\ P2 a b c d e /\ P3 a b c d e /\ P4 a b c d e /\ P5 a b c d e) (k : ∀ a b c d e, P0 a b c d e -> P1 a b c d e -> P2 a b c d e -> P3 a b c d e -> P4 a b c d e -> P5 a b c d e -> G) : G :=
  Exists.elim h fun a h => Exists.elim h fun b h => Exists.elim h fun c h => Exists.elim h fun d h => Exists.elim h fun e h => k a b c d e h.1 h.2.1 h.2.2.1 h.2.2.2.1 h.2.2.2.2.1 h.2.2.2.2.2
theorem ob63 {α β γ δ ε ζ : Sort _} {P0 P1 P2 : α -> β -> γ -> δ -> ε -> ζ -> Prop} {G : Prop} (h : ∃ a b c d e f, P0 a b c d e f /\ P1 a b c d e f /\ P2 a b c d e f) (k : ∀ a b c d e f, P0 a b c d e f -> P1 a b c d e f -> P2 a b c d e f -> G) : G :=
  Exists.elim h fun a h => Exists.elim h fun b h => Exists.elim h fun c h => Exists.elim h fun d h => Exists.elim h fun e h => Exists.elim h fun f h => k a b c d e f h.1 h.2.1 h.2.2
theorem ob67 {α β γ δ ε ζ : Sort _} {P0 P1 P2 P3 P4 P5 P6 : α -> β -> γ -> δ -> ε -> ζ -> Prop} {G : Prop} (h : ∃ a b c d e f, P0 a b c d e f /\ P1 a b c d e f /\ P2 a b c d e f /\ P3 a b c d e f /\ P4 a b c d e f /\ P5 a b c d e f /\ P6 a b c d e f) (k : ∀ a b c d e f, P0 a b c d e f -> P1 a b c d e f -> P2 a b c d e f -> P3 a b c d e f -> P4 a b c d e f -> P5 a b c d e f -> P6 a b c d e f -> G) : G :=
  Exists.elim h fun a h => Exists.elim h fun b h => Exists.elim h fun c h => Exists.elim h fun d h => Exists.elim h fun e h => Exists.elim h fun f h => k a b c d e f h.1 h.2.1 h.2.2.1 h.2.2.2.1 h.2.2.2.2.1 h.2.2.2.2.2.1 h.2.2.2.2.2.2
theorem ob75 {α β γ δ ε ζ η : Sort _} {P0 P1 P2 P3 P4 : α -> β -> γ -> δ -> ε -> ζ -> η -> Prop} {G : Prop} (h : ∃ a b c d e f g, P0 a b c d e f g /\ P1 a b c d e f g /\ P2 a b c d e f g /\ P3 a b c d e f g /\ P4 a b c d e f g) (k : ∀ a b c d e f g, P0 a b c d e f g -> P1 a b c d e f g -> P2 a b c d e f g -> P3 a b c d e f g -> P4 a b c d e f g -> G) : G :=
  Exists.elim h fun a h => Exists.elim h fun b h => Exists.elim h fun c h => Exists.elim h fun d h => Exists.elim h fun e h => Exists.elim h fun f h => Exists.elim h fun g h => k a b c d e f g h.1 h.2.1 h.2.2.1 h.2.2.2.1 h.2.2.2.2
theorem lt2 {P : Nat -> Prop} (n : Nat) (h : n < 2) (h0 : P 0) (h1 : P 1) : P n :=
  match n, h with
  | 0, _ => h0
  | 1, _ => h1
theorem lt3 {P : Nat -> Prop} (n : Nat) (h : n < 3) (h0 : P 0) (h1 : P 1) (h2 : P 2) : P n :=
  match n, h with
  | 0, _ => h0
  | 1, _ => h1
  | 2, _ => h2
theorem lt4 {P : Nat -> Prop} (n : Nat) (h : n < 4) (h0 : P 0) (h1 : P 1) (h2 : P 2) (h3 : P 3) : P n :=
  match n, h with
  | 0, _ => h0
  | 1, _ => h1
  | 2, _ => h2
  | 3, _ => h3
end Mine
end

section
namespace Mine
theorem mk11 {α : Sort _} {P0 : α -> Prop} (a : α) (h0 : P0 a) : ∃ a, P0 a :=
  ⟨a, h0⟩
theorem mk12 {α : Sort _} {P0 P1 : α -> Prop} (a : α) (h0 : P0 a) (h1 : P1 a) : ∃ a, P0 a /\ P1 a :=
  ⟨a, h0, h1⟩
theorem mk13 {α : Sort _} {P0 P1 P2 : α -> Prop} (a : α) (h0 : P0 a) (h1 : P1 a) (h2 : P2 a) : ∃ a, P0 a /\ P1 a /\ P2 a :=
  ⟨a, h0, h1, h2⟩
theorem mk14 {α : Sort _} {P0 P1 P2 P3 : α -> Prop} (a : α) (h0 : P0 a) (h1 : P1 a) (h2 : P2 a) (h3 : P3 a) : ∃ a, P0 a /\ P1 a /\ P2 a /\ P3 a :=
  ⟨a, h0, h1, h2, h3⟩
theorem mk15 {α : Sort _} {P0 P1 P2 P3 P4 : α -> Prop} (a : α) (h0 : P0 a) (h1 : P1 a) (h2 : P2 a) (h3 : P3 a) (h4 : P4 a) : ∃ a, P0 a /\ P1 a /\ P2 a /\ P3 a /\ P4 a :=
  ⟨a, h0, h1, h2, h3, h4⟩
theorem mk21 {α β : Sort _} {P0 : α -> β -> Prop} (a : α) (b : β) (h0 : P0 a b) : ∃ a b, P0 a b :=
  ⟨a, b, h0⟩
theorem mk22 {α β : Sort _} {P0 P1 : α -> β -> Prop} (a : α) (b : β) (h0 : P0 a b) (h1 : P1 a b) : ∃ a b, P0 a b /\ P1 a b :=
  ⟨a, b, h0, h1⟩
theorem mk23 {α β : Sort _} {P0 P1 P2 : α -> β -> Prop} (a : α) (b : β) (h0 : P0 a b) (h1 : P1 a b) (h2 : P2 a b) : ∃ a b, P0 a b /\ P1 a b /\ P2 a b :=
  ⟨a, b, h0, h1, h2⟩
theorem mk24 {α β : Sort _} {P0 P1 P2 P3 : α -> β -> Prop} (a : α) (b : β) (h0 : P0 a b) (h1 : P1 a b) (h2 : P2 a b) (h3 : P3 a b) : ∃ a b, P0 a b /\ P1 a b /\ P2 a b /\ P3 a b :=
  ⟨a, b, h0, h1, h2, h3⟩
theorem mk25 {α β : Sort _} {P0 P1 P2 P3 P4 : α -> β -> Prop} (a : α) (b : β) (h0 : P0 a b) (h1 : P1 a b) (h2 : P2 a b) (h3 : P3 a b) (h4 : P4 a b) : ∃ a b, P0 a b /\ P1 a b /\ P2 a b /\ P3 a b /\ P4 a b :=
  ⟨a, b, h0, h1, h2, h3, h4⟩
theorem mk26 {α β : Sort _} {P0 P1 P2 P3 P4 P5 : α -> β -> Prop} (a : α) (b : β) (h0 : P0 a b) (h1 : P1 a b) (h2 : P2 a b) (h3 : P3 a b) (h4 : P4 a b) (h5 : P5 a b) : ∃ a b, P0 a b /\ P1 a b /\ P2 a b /\ P3 a b /\ P4 a b /\ P5 a b :=
  ⟨a, b, h0, h1, h2, h3, h4, h5⟩
theorem mk31 {α β γ : Sort _} {P0 : α -> β -> γ -> Prop} (a : α) (b : β) (c : γ) (h0 : P0 a b c) : ∃ a b c, P0 a b c :=
  ⟨a, b, c, h0⟩
theorem mk32 {α β γ : Sort _} {P0 P1 : α -> β -> γ -> Prop} (a : α) (b : β) (c : γ) (h0 : P0 a b c) (h1 : P1 a b c) : ∃ a b c, P0 a b c /\ P1 a b c :=
  ⟨a, b, c, h0, h1⟩
theorem mk33 {α β γ : Sort _} {P0 P1 P2 : α -> β -> γ -> Prop} (a : α) (b : β) (c : γ) (h0 : P0 a b c) (h1 : P1 a b c) (h2 : P2 a b c) : ∃ a b c, P0 a b c /\ P1 a b c /\ P2 a b c :=
  ⟨a, b, c, h0, h1, h2⟩
theorem mk34 {α β γ : Sort _} {P0 P1 P2 P3 : α -> β -> γ -> Prop} (a : α) (b : β) (c : γ) (h0 : P0 a b c) (h1 : P1 a b c) (h2 : P2 a b c) (h3 : P3 a b c) : ∃ a b c, P0 a b c /\ P1 a b c /\ P2 a b c /\ P3 a b c :=
  ⟨a, b, c, h0, h1, h2, h3⟩
theorem mk35 {α β γ : Sort _} {P0 P1 P2 P3 P4 : α -> β -> γ -> Prop} (a : α) (b : β) (c : γ) (h0 : P0 a b c) (h1 : P1 a b c) (h2 : P2 a b c) (h3 : P3 a b c) (h4 : P4 a b c) : ∃ a b c, P0 a b c /\ P1 a b c /\ P2 a b c /\ P3 a b c /\ P4 a b c :=
  ⟨a, b, c, h0, h1, h2, h3, h4⟩
theorem mk36 {α β γ : Sort _} {P0 P1 P2 P3 P4 P5 : α -> β -> γ -> Prop} (a : α) (b : β) (c : γ) (h0 : P0 a b c) (h1 : P1 a b c) (h2 : P2 a b c) (h3 : P3 a b c) (h4 : P4 a b c) (h5 : P5 a b c) : ∃ a b c, P0 a b c /\ P1 a b c /\ P2 a b c /\ P3 a b c /\ P4 a b c /\ P5 a b c :=
  ⟨a, b, c, h0, h1, h2, h3, h4, h5⟩
theorem mk37 {α β γ : Sort _} {P0 P1 P2 P3 P4 P5 P6 : α -> β -> γ -> Prop} (a : α) (b : β) (c : γ) (h0 : P0 a b c) (h1 : P1 a b c) (h2 : P2 a b c) (h3 : P3 a b c) (h4 : P4 a b c) (h5 : P5 a b c) (h6 : P6 a b c) : ∃ a b c, P0 a b c /\ P1 a b c /\ P2 a b c /\ P3 a b c /\ P4 a b c /\ P5 a b c /\ P6 a b c :=
  ⟨a, b, c, h0, h1, h2, h3, h4, h5, h6⟩
theorem mk41 {α β γ δ : Sort _} {P0 : α -> β -> γ -> δ -> Prop} (a : α) (b : β) (c : γ) (d : δ) (h0 : P0 a b c d) : ∃ a b c d, P0 a b c d :=
  ⟨a, b, c, d, h0⟩
theorem mk44 {α β γ δ : Sort _} {P0 P1 P2 P3 : α -> β -> γ -> δ -> Prop} (a : α) (b : β) (c : γ) (d : δ) (h0 : P0 a b c d) (h1 : P1 a b c d) (h2 : P2 a b c d) (h3 : P3 a b c d) : ∃ a b c d, P0 a b c d /\ P1 a b c d /\ P2 a b c d /\ P3 a b c d :=
  ⟨a, b, c, d, h0, h1, h2, h3⟩
theorem mk45 {α β γ δ : Sort _} {P0 P1 P2 P3 P4 : α -> β -> γ -> δ -> Prop} (a : α) (b : β) (c : γ) (d : δ) (h0 : P0 a b c d) (h1 : P1 a b c d) (h2 : P2 a b c d) (h3 : P3 a b c d) (h4 : P4 a b c d) : ∃ a b c d, P0 a b c d /\ P1 a b c d /\ P2 a b c d /\ P3 a b c d /\ P4 a b c d :=
  ⟨a, b, c, d, h0, h1, h2, h3, h4⟩
theorem mk46 {α β γ δ : Sort _} {P0 P1 P2 P3 P4 P5 : α -> β -> γ -> δ -> Prop} (a : α) (b : β) (c : γ) (d : δ) (h0 : P0 a b c d) (h1 : P1 a b c d) (h2 : P2 a b c d) (h3 : P3 a b c d) (h4 : P4 a b c d) (h5 : P5 a b c d) : ∃ a b c d, P0 a b c d /\ P1 a b c d /\ P2 a b c d /\ P3 a b c d /\ P4 a b c d /\ P5 a b c d :=
  ⟨a, b, c, d, h0, h1, h2, h3, h4, h5⟩
theorem mk53 {α β γ δ ε : Sort _} {P0 P1 P2 : α -> β -> γ -> δ -> ε -> Prop} (a : α) (b : β) (c : γ) (d : δ) (e : ε) (h0 : P0 a b c d e) (h1 : P1 a b c d e) (h2 : P2 a b c d e) : ∃ a b c d e, P0 a b c d e /\ P1 a b c d e /\ P2 a b c d e :=
  ⟨a, b, c, d, e, h0, h1, h2⟩
theorem mk54 {α β γ δ ε : Sort _} {P0 P1 P2 P3 : α -> β -> γ -> δ -> ε -> Prop} (a : α) (b : β) (c : γ) (d : δ) (e : ε) (h0 : P0 a b c d e) (h1 : P1 a b c d e) (h2 : P2 a b c d e) (h3 : P3 a b c d e) : ∃ a b c d e, P0 a b c d e /\ P1 a b c d e /\ P2 a b c d e /\ P3 a b c d e :=
  ⟨a, b, c, d, e, h0, h1, h2, h3⟩
theorem mk55 {α β γ δ ε : Sort _} {P0 P1 P2 P3 P4 : α -> β -> γ -> δ -> ε -> Prop} (a : α) (b : β) (c : γ) (d : δ) (e : ε) (h0 : P0 a b c d e) (h1 : P1 a b c d e) (h2 : P2 a b c d e) (h3 : P3 a b c d e) (h4 : P4 a b c d e) : ∃ a b c d e, P0 a b c d e /\ P1 a b c d e /\ P2 a b c d e /\ P3 a b c d e /\ P4 a b c d e :=
  ⟨a, b, c, d, e, h0, h1, h2, h3, h4⟩
theorem mk56 {α β γ δ ε : Sort _} {P0 P1 P2 P3 P4 P5 : α -> β -> γ -> δ -> ε -> Prop} (a : α) (b : β) (c : γ) (d : δ) (e : ε) (h0 : P0 a b c d e) (h1 : P1 a b c d e) (h2 : P2 a b c d e) (h3 : P3 a b c d e) (h4 : P4 a b c d e) (h5 : P5 a b c d e) : ∃ a b c d e, P0 a b c d e /\ P1 a b c d e /\ P2 a b c d e /\ P3 a b c d e /\ P4 a b c d e /\ P5 a b c d e :=
  ⟨a, b, c, d, e, h0, h1, h2, h3, h4, h5⟩
theorem mk61 {α β γ δ ε ζ : Sort _} {P0 : α -> β -> γ -> δ -> ε -> ζ -> Prop} (a : α) (b : β) (c : γ) (d : δ) (e : ε) (f : ζ) (h0 : P0 a b c d e f) : ∃ a b c d e f, P0 a b c d e f :=
  ⟨a, b, c, d, e, f, h0⟩
theorem mk63 {α β γ δ ε ζ : Sort _} {P0 P1 P2 : α -> β -> γ -> δ -> ε -> ζ -> Prop} (a : α) (b : β) (c : γ) (d : δ) (e : ε) (f : ζ) (h0 : P0 a b c d e f) (h1 : P1 a b c d e f) (h2 : P2 a b c d e f) : ∃ a b c d e f, P0 a b c d e f /\ P1 a b c d e f /\ P2 a b c d e f :=
  ⟨a, b, c, d, e, f, h0, h1, h2⟩
theorem mk67 {α β γ δ ε ζ : Sort _} {P0 P1 P2 P3 P4 P5 P6 : α -> β -> γ -> δ -> ε -> ζ -> Prop} (a : α) (b : β) (c : γ) (d : δ) (e : ε) (f : ζ) (h0 : P0 a b c d e f) (h1 : P1 a b c d e f) (h2 : P2 a b c d e f) (h3 : P3 a b c d e f) (h4 : P4 a b c d e f) (h5 : P5 a b c d e f) (h6 : P6 a b c d e f) : ∃ a b c d e f, P0 a b c d e f /\ P1 a b c d e f /\ P2 a b c d e f /\ P3 a b c d e f /\ P4 a b c d e f /\ P5 a b c d e f /\ P6 a b c d e f :=
  ⟨a, b, c, d, e, f, h0, h1, h2, h3, h4, h5, h6⟩
theorem mk75 {α β γ δ ε ζ η : Sort _} {P0 P1 P2 P3 P4 : α -> β -> γ -> δ -> ε -> ζ -> η -> Prop} (a : α) (b : β) (c : γ) (d : δ) (e : ε) (f : ζ) (g : η) (h0 : P0 a b c d e f g) (h1 : P1 a b c d e f g) (h2 : P2 a b c d e f g) (h3 : P3 a b c d e f g) (h4 : P4 a b c d e f g) : ∃ a b c d e f g, P0 a b c d e f g /\ P1 a b c d e f g /\ P2 a b c d e f g /\ P3 a b c d e f g /\ P4 a b c d e f g :=
  ⟨a, b, c, d, e, f, g, h0, h1, h2, h3, h4⟩
end Mine
end

section
namespace Mine
open PySem
section
variable {α β γ : Type}
theorem bnd_ret (a : α) (f : α -> EM β) : bnd (ret a) f = f a := rfl
theorem bnd_assoc (m : EM α) (f : α -> EM β) (g : β -> EM γ) : bnd (bnd m f) g = bnd m fun a => bnd (f a) g := by
  funext S
  unfold bnd
  cases m S <;> rfl
end
theorem seqM_next (σ : Sg) (k : Sg -> EM Fl) : seqM (ret (.next σ)) k = k σ := rfl
theorem seqM_seq (m : EM Fl) (f k : Sg -> EM Fl) : seqM (seqM m f) k = seqM m fun σ => seqM (f σ) k := by
  funext S
  unfold seqM bnd
  cases m S with
  | ok a S' => cases a <;> rfl
  | _ => rfl
theorem ifM_true (a b : EM Fl) : ifM (ret true) a b = a := rfl
theorem ifM_false (a b : EM Fl) : ifM (ret false) a b = b := rfl
theorem andM_t (k : EM Bool) : andM (ret true) k = k := rfl
theorem andM_rr (a b : Bool) : andM (ret a) (ret b) = ret (a && b) := by cases a <;> rfl
theorem consM_ret (d : D) (ds : List D) : consM (ret d) (ret ds) = ret (d :: ds) := rfl
theorem tupM_ret (ds : List D) (h : ds.length <= 100) : tupM (ret ds) = ret (.tuple ds) := by
  show (if ds.length <= sizeLine then ret (D.tuple ds) else stk) = _
  rw [if_pos (Nat.le_trans h (by decide))]
theorem lst0_ret (ds : List D) (h : ds.length <= 100) : lst0 (ret ds) = ret (.list ds) := by
  show (if ds.length <= sizeLine then mkList cfg0 pos0 ds else stk) = _
  rw [if_pos (Nat.le_trans h (by decide))]
  rfl
theorem callN_ret (cf : CF) (f : Str) (ds : List D) : callN cf f (ret ds) = calm (cf f ds) := rfl
theorem calm_ret {α : Type} (a : α) : calm (ret a) = ret a := rfl
theorem cmpS_ret (op : CmpOp) (a b : D) : cmpS op (ret a) (ret b) = cmpM op a b := rfl
theorem cmpB_ret (op : CmpOp) (a b : D) : cmpB op (ret a) (ret b) = bnd (cmpM op a b) fun c => ret (.bool c) := rfl
theorem subS_ret (a i : D) : subS (ret a) (ret i) = itemM a i := rfl
theorem sliS_ret (a l h : D) : sliS (ret a) (ret l) (ret h) = sli0 a l h := rfl
theorem binS_ret (op : Operator) (a b : D) : binS op (ret a) (ret b) = bin0 op a b := rfl
noncomputable def Pl (d : D) : Prop := ∃ p, d.py = some p
theorem Pl.tuple {ds : List D} (h : Pl (.tuple ds)) : ∃ ps, D.pys ds = some ps := by
  refine ob11 h fun p e => ?_; clear h
  unfold D.py at e
  cases hp : D.pys ds with
  | none => rw [hp] at e; cases e
  | some ps => exact mk11 ps rfl
theorem Pl.list {ds : List D} (h : Pl (.list ds)) : ∃ ps, D.pys ds = some ps := by
  refine ob11 h fun p e => ?_; clear h
  unfold D.py at e
  cases hp : D.pys ds with
  | none => rw [hp] at e; cases e
  | some ps => exact mk11 ps rfl
theorem pys_cons {d : D} {ds : List D} {ps : List PyData} (h : D.pys (d :: ds) = some ps) : ∃ p qs, ps = p :: qs /\ d.py = some p /\ D.pys ds = some qs := by
  unfold D.pys at h
  cases h1 : d.py with
  | none => rw [h1] at h; cases h
  | some p =>
    cases h2 : D.pys ds with
    | none => rw [h1, h2] at h; cases h
    | some qs => rw [h1, h2] at h; cases h; exact mk23 p qs rfl rfl rfl
theorem pys_of : ∀ {ds : List D}, (∀ d ∈ ds, Pl d) -> ∃ ps, D.pys ds = some ps
  | [], _ => mk11 [] rfl
  | d :: ds, h => by
    refine ob11 (h d (List.mem_cons_self ..)) fun p e => ?_
    refine ob11 (pys_of fun x hx => h x (List.mem_cons_of_mem _ hx)) fun qs e' => ?_
    exact mk11 (p :: qs) (by unfold D.pys; rw [e, e'])
theorem pys_all : ∀ {ds : List D} {ps : List PyData}, D.pys ds = some ps -> ∀ d ∈ ds, Pl d
  | [], _, _, d, h => by cases h
  | e :: ds, ps, h, d, hd => by
    refine ob23 (pys_cons h) fun p qs _ h1 h2 => ?_
    rcases List.mem_cons.mp hd with q | q
    · subst q; exact mk11 p h1
    · exact pys_all h2 d q
theorem Pl.tup {ds : List D} (h : ∀ d ∈ ds, Pl d) : Pl (.tuple ds) := by
  refine ob11 (pys_of h) fun ps e => ?_
  exact mk11 (.tuple ps) (by unfold D.py; rw [e]; rfl)
theorem Pl.lst {ds : List D} (h : ∀ d ∈ ds, Pl d) : Pl (.list ds) := by
  refine ob11 (pys_of h) fun ps e => ?_
  exact mk11 (.list ps) (by unfold D.py; rw [e]; rfl)
theorem Pl.mem {ds : List D} (h : Pl (.tuple ds)) : ∀ d ∈ ds, Pl d := let ⟨_, e⟩ := h.tuple; pys_all e
theorem eqM_str (x y : Str) : eqM (.str x) (.str y) = ret (x == y) := rfl
theorem eqM_int (i j : Int) : eqM (.int i) (.int j) = ret (i == j) := rfl
theorem pyAt_pl {d : D} {p : PyData} (h : d.py = some p) (S : Store) : pyAt S d = some p := by
  cases d with
  | loc n => cases h
  | _ => exact h
theorem anyEq_strs (ys : List Str) (q : PyData) : anyEq (ys.map PyData.str) q = some (ys.any fun y => PyData.eqv (.str y) q) := by
  have hd : PyData.depthAll (ys.map PyData.str) <= 600 := by
    have : PyData.depthAll (ys.map PyData.str) = 0 := by
      induction ys with
      | nil => rfl
      | cons y ys ih => rw [List.map_cons]; show max (PyData.depth (.str y)) _ = 0; rw [ih]; rfl
    lia
  unfold anyEq
  rw [if_pos (decide_eq_true (Nat.le_trans (Nat.min_le_left _ _) hd)), List.any_map]
  rfl
theorem pys_strs (ys : List Str) : D.pys (ys.map D.str) = some (ys.map PyData.str) := by
  induction ys with
  | nil => rfl
  | cons y ys ih => rw [List.map_cons, List.map_cons]; unfold D.pys; rw [ih]; rfl
theorem inL_strs {d : D} {p : PyData} (h : d.py = some p) (ys : List Str) : inL (ys.map D.str) d = ret (ys.any fun y => PyData.eqv (.str y) p) := by
  funext S
  unfold inL
  rw [pys_strs, pyAt_pl h]
  show optM (anyEq (ys.map PyData.str) p) S = _
  rw [anyEq_strs]; rfl
theorem inM_lst {d : D} {p : PyData} (h : d.py = some p) (ys : List Str) : inM d (.list (ys.map D.str)) = ret (ys.any fun y => PyData.eqv (.str y) p) := inL_strs h ys
theorem compL_filter {turn : D -> EM (Option D)} {p : D -> Bool} : ∀ (ds : List D), (∀ d ∈ ds, turn d = ret (if p d then some d else none)) -> compL turn ds = ret (ds.filter p)
  | [], _ => rfl
  | d :: ds, h => by
    have q : compL turn (d :: ds) = bnd (turn d) fun x => bnd (compL turn ds) fun ys => ret (match x with
      | some y => y :: ys
      | none => ys) := rfl
    rw [q, h d (List.mem_cons_self ..), bnd_ret, compL_filter ds fun x hx => h x (List.mem_cons_of_mem _ hx), bnd_ret, List.filter_cons]
    cases p d <;> rfl
theorem compL_map {turn : D -> EM (Option D)} {Q : D -> Prop} : ∀ (ds : List D), (∀ d ∈ ds, ∃ y, Q y /\ turn d = ret (some y)) -> ∃ ys, ys.length = ds.length /\ (∀ y ∈ ys, Q y) /\ compL turn ds = ret ys
  | [], _ => mk13 [] rfl (by simp) rfl
  | d :: ds, h => by
    have q : compL turn (d :: ds) = bnd (turn d) fun x => bnd (compL turn ds) fun ys => ret (match x with
      | some y => y :: ys
      | none => ys) := rfl
    refine ob12 (h d (List.mem_cons_self ..)) fun y h1 h2 => ?_
    refine ob13 (compL_map ds fun x hx => h x (List.mem_cons_of_mem _ hx)) fun ys h3 h4 h5 => ?_
    refine mk13 (y :: ys) (by simp [h3]) ?_ ?_
    · intro z hz
      rcases List.mem_cons.mp hz with e | e
      · rw [e]; exact h1
      · exact h4 z e
    · rw [q, h2, bnd_ret, h5, bnd_ret]
theorem seqIndex_nat {k n : Nat} (h : k < n) : seqIndex? (k : Int) n = some k := by
  unfold seqIndex?
  have h1 : ¬ ((k : Int) < 0) := by lia
  simp only [h1, if_false]
  have h2 : (0 : Int) <= k /\ (k : Int) < n := by lia
  simp [h]
theorem seqIndex_neg {k n : Nat} (h0 : 0 < k) (h : k <= n) : seqIndex? (-(k : Int)) n = some (n - k) := by
  unfold seqIndex?
  have h1 : (-(k : Int) < 0) := by lia
  simp only [h1, if_true]
  have h2 : (-(k : Int) + n) = ((n - k : Nat) : Int) := by lia
  rw [h2]
  simp
  lia
theorem itemL_at {ds : List D} {k : Nat} {d : D} (h : ds[k]? = some d) : itemM (.list ds) (.int k) = ret d := by
  funext S
  show optM ((seqIndex? (k : Int) ds.length).bind (ds[·]?)) S = _
  rw [seqIndex_nat (List.getElem?_eq_some_iff.mp h).1]
  show optM (ds[k]?) S = _
  rw [h]; rfl
theorem itemL_neg {ds : List D} {k : Nat} {d : D} (h0 : 0 < k) (hk : k <= ds.length) (h : ds[ds.length - k]? = some d) : itemM (.list ds) (.int (-(k : Int))) = ret d := by
  funext S
  show optM ((seqIndex? (-(k : Int)) ds.length).bind (ds[·]?)) S = _
  rw [seqIndex_neg h0 hk]
  show optM (ds[ds.length - k]?) S = _
  rw [h]; rfl
theorem lk0 {σ : Sg} {d : D} : lk (some d :: σ) 0 = ret d := rfl
theorem lkS {σ : Sg} {o : Option D} {n : Nat} : lk (o :: σ) (n + 1) = lk σ n := by unfold lk; rw [List.getElem?_cons_succ]
theorem put0 {σ : Sg} {o : Option D} {d : D} : put (o :: σ) 0 d = some d :: σ := rfl
theorem putS {σ : Sg} {o : Option D} {d : D} {n : Nat} : put (o :: σ) (n + 1) d = o :: put σ n d := rfl
end Mine
end

section
namespace Mine
open PySem
noncomputable section
noncomputable def b__law_cell_at_0 (cf : CF) (σ : Sg) : EM Fl :=
 seqM (bnd (ret (.int (0))) fun d => ret (.ret d)) (nxt)
noncomputable def b__law_cell_at_1 (cf : CF) (σ : Sg) : EM Fl :=
 seqM (bnd (subS (lk σ 0) (lk σ 1)) fun d => ret (.ret d)) (nxt)
noncomputable def b__law_cell_at_2 (cf : CF) (σ : Sg) : EM Fl :=
 seqM (ifM (cmpS .Lt (lk σ 1) (bnd (consM (lk σ 0) (ret [])) fun ds => bf0 .len ds)) (b__law_cell_at_1 cf σ) (nxt σ)) (b__law_cell_at_0 cf)
noncomputable def s__law_cell_at (cf : CF) (a0 a1 : D) : EM D :=
 finM (b__law_cell_at_2 cf [some a0, some a1, none])
noncomputable def b__law_name_by_0 (ix : MImpl) (cf : CF) (σ : Sg) : EM Fl :=
 seqM (bnd (binS .Add (binS .Add (sliS (lk σ 4) (ret .none) (lk σ 5)) (lk σ 6)) (sliS (lk σ 4) (binS .Add (lk σ 5) (ret (.int (1)))) (ret .none))) fun d => ret (.ret d)) (nxt)
noncomputable def b__law_name_by_1 (ix : MImpl) (cf : CF) (σ : Sg) : EM Fl :=
 seqM (bnd (binS .Add (lk σ 4) (lk σ 6)) fun d => ret (.ret d)) (nxt)
noncomputable def b__law_name_by_2 (ix : MImpl) (cf : CF) (σ : Sg) : EM Fl :=
 seqM (ifM (andM (cmpS .Eq (lk σ 1) (ret (.int (2)))) (andM (cmpS .Eq (binS .Mod (binS .FloorDiv (lk σ 0) (ret (.int (13312)))) (ret (.int (2)))) (ret (.int (1)))) (andM (cmpS .Lt (lk σ 3) (ret (.int (8)))) (ret true)))) (b__law_name_by_1 ix cf σ) (nxt σ)) (b__law_name_by_0 ix cf)
noncomputable def b__law_name_by_3 (ix : MImpl) (cf : CF) (σ : Sg) : EM Fl :=
 seqM (bnd (subS (lk σ 2) (binS .Mod (binS .Add (methS ix (lk σ 2) (consM (subS (lk σ 4) (lk σ 5)) (ret []))) (binS .Mult (lk σ 1) (binS .Add (ret (.int (1))) (binS .Mod (binS .FloorDiv (lk σ 0) (ret (.int (1664)))) (ret (.int (8))))))) (ret (.int (26))))) fun d => ret (.next (put σ 6 d))) (b__law_name_by_2 ix cf)
noncomputable def b__law_name_by_4 (ix : MImpl) (cf : CF) (σ : Sg) : EM Fl :=
 seqM (bnd (binS .Mod (binS .FloorDiv (lk σ 0) (ret (.int (208)))) (lk σ 3)) fun d => ret (.next (put σ 5 d))) (b__law_name_by_3 ix cf)
noncomputable def t__law_name_by_5 (ix : MImpl) (cf : CF) (σ : Sg) (d : D) : EM (Option D) :=
 (fun σc => turnS (ret true) (subS (lk σc 2) (binS .Mod (binS .Add (binS .Add (binS .FloorDiv (lk σc 3) (ret (.int (8)))) (binS .Mult (ret (.int (5))) (lk σc 1))) (binS .Mult (lk σc 1) (lk σc 1))) (ret (.int (26)))))) (put [none, none, (σ[2]?).join, (σ[0]?).join] 1 d)
noncomputable def b__law_name_by_6 (ix : MImpl) (cf : CF) (σ : Sg) : EM Fl :=
 seqM (bnd (methS mJoin (ret (.str (Str.ofString ""))) (consM (comp0 (bnd (consM (lk σ 3) (ret [])) fun ds => bf0 .range ds) (t__law_name_by_5 ix cf σ)) (ret []))) fun d => ret (.next (put σ 4 d))) (b__law_name_by_4 ix cf)
noncomputable def b__law_name_by_7 (ix : MImpl) (cf : CF) (σ : Sg) : EM Fl :=
 seqM (bnd (binS .Add (ret (.int (1))) (binS .Mod (lk σ 0) (ret (.int (8))))) fun d => ret (.next (put σ 3 d))) (b__law_name_by_6 ix cf)
noncomputable def b__law_name_by_8 (ix : MImpl) (cf : CF) (σ : Sg) : EM Fl :=
 seqM (bnd (ret (.str (Str.ofString "abcdefghijklmnopqrstuvwxyz"))) fun d => ret (.next (put σ 2 d))) (b__law_name_by_7 ix cf)
noncomputable def s__law_name_by (ix : MImpl) (cf : CF) (a0 a1 : D) : EM D :=
 finM (b__law_name_by_8 ix cf [some a0, some a1, none, none, none, none, none, none])
noncomputable def b__law_joined_0 (cf : CF) (σ : Sg) : EM Fl :=
 seqM (bnd (tupM (consM (subS (lst0 (consM (ret (.str (Str.ofString "and"))) (consM (ret (.str (Str.ofString "or"))) (consM (ret (.str (Str.ofString "then"))) (consM (ret (.str (Str.ofString "then"))) (ret [])))))) (binS .Mod (lk σ 0) (ret (.int (4))))) (consM (lk σ 1) (consM (lk σ 2) (ret []))))) fun d => ret (.ret d)) (nxt)
noncomputable def b__law_joined_1 (cf : CF) (σ : Sg) : EM Fl :=
 seqM (bnd (tupM (consM (subS (lst0 (consM (ret (.str (Str.ofString "and"))) (consM (ret (.str (Str.ofString "or"))) (consM (ret (.str (Str.ofString "then"))) (consM (ret (.str (Str.ofString "then"))) (ret [])))))) (binS .Mod (lk σ 0) (ret (.int (4))))) (consM (lk σ 2) (consM (lk σ 1) (ret []))))) fun d => ret (.ret d)) (nxt)
noncomputable def b__law_joined_2 (cf : CF) (σ : Sg) : EM Fl :=
 seqM (ifM (cmpS .Eq (binS .Mod (binS .FloorDiv (lk σ 0) (ret (.int (4)))) (ret (.int (2)))) (ret (.int (1)))) (b__law_joined_1 cf σ) (nxt σ)) (b__law_joined_0 cf)
noncomputable def s__law_joined (cf : CF) (a0 a1 a2 : D) : EM D :=
 finM (b__law_joined_2 cf [some a0, some a1, some a2])
noncomputable def b__law_step_0 (cf : CF) (σ : Sg) : EM Fl :=
 seqM (bnd (binS .Add (lk σ 0) (lst0 (consM (tupM (consM (ret (.str (Str.ofString "name"))) (consM (callN cf (Str.ofString "_law_name_by") (consM (lk σ 2) (consM (binS .Mod (lk σ 4) (ret (.int (4)))) (ret [])))) (ret [])))) (ret [])))) fun d => ret (.ret d)) (nxt)
noncomputable def b__law_step_1 (cf : CF) (σ : Sg) : EM Fl :=
 seqM (bnd (binS .Add (sliS (lk σ 0) (ret .none) (bnd (ret (.int (2))) fun a => unop .USub a)) (lst0 (consM (callN cf (Str.ofString "_law_joined") (consM (lk σ 4) (consM (subS (lk σ 0) (bnd (ret (.int (2))) fun a => unop .USub a)) (consM (subS (lk σ 0) (bnd (ret (.int (1))) fun a => unop .USub a)) (ret []))))) (ret [])))) fun d => ret (.ret d)) (nxt)
noncomputable def b__law_step_2 (cf : CF) (σ : Sg) : EM Fl :=
 seqM (ifM (andM (cmpS .Gt (lk σ 3) (ret (.int (6)))) (andM (cmpS .Gt (bnd (consM (lk σ 0) (ret [])) fun ds => bf0 .len ds) (ret (.int (1)))) (ret true))) (b__law_step_1 cf σ) (nxt σ)) (b__law_step_0 cf)
noncomputable def b__law_step_3 (cf : CF) (σ : Sg) : EM Fl :=
 seqM (bnd (binS .Add (sliS (lk σ 0) (ret .none) (bnd (ret (.int (1))) fun a => unop .USub a)) (lst0 (consM (tupM (consM (ret (.str (Str.ofString "then"))) (consM (subS (lk σ 0) (bnd (ret (.int (1))) fun a => unop .USub a)) (consM (tupM (consM (ret (.str (Str.ofString "false"))) (ret []))) (ret []))))) (ret [])))) fun d => ret (.ret d)) (nxt)
noncomputable def b__law_step_4 (cf : CF) (σ : Sg) : EM Fl :=
 seqM (ifM (andM (cmpS .Eq (lk σ 3) (ret (.int (6)))) (andM (cmpS .Gt (bnd (consM (lk σ 0) (ret [])) fun ds => bf0 .len ds) (ret (.int (0)))) (ret true))) (b__law_step_3 cf σ) (nxt σ)) (b__law_step_2 cf)
noncomputable def b__law_step_5 (cf : CF) (σ : Sg) : EM Fl :=
 seqM (bnd (binS .Add (lk σ 0) (lst0 (consM (subS (lk σ 0) (binS .Mod (lk σ 4) (bnd (consM (lk σ 0) (ret [])) fun ds => bf0 .len ds))) (ret [])))) fun d => ret (.ret d)) (nxt)
noncomputable def b__law_step_6 (cf : CF) (σ : Sg) : EM Fl :=
 seqM (ifM (andM (cmpS .Eq (lk σ 3) (ret (.int (5)))) (andM (cmpS .Gt (bnd (consM (lk σ 0) (ret [])) fun ds => bf0 .len ds) (ret (.int (0)))) (ret true))) (b__law_step_5 cf σ) (nxt σ)) (b__law_step_4 cf)
noncomputable def b__law_step_7 (cf : CF) (σ : Sg) : EM Fl :=
 seqM (bnd (binS .Add (lk σ 0) (lst0 (consM (tupM (consM (ret (.str (Str.ofString "false"))) (ret []))) (ret [])))) fun d => ret (.ret d)) (nxt)
noncomputable def b__law_step_8 (cf : CF) (σ : Sg) : EM Fl :=
 seqM (ifM (cmpS .Eq (lk σ 3) (ret (.int (4)))) (b__law_step_7 cf σ) (nxt σ)) (b__law_step_6 cf)
noncomputable def b__law_step_9 (cf : CF) (σ : Sg) : EM Fl :=
 seqM (bnd (binS .FloorDiv (lk σ 1) (ret (.int (10)))) fun d => ret (.next (put σ 4 d))) (b__law_step_8 cf)
noncomputable def b__law_step_10 (cf : CF) (σ : Sg) : EM Fl :=
 seqM (bnd (binS .Mod (lk σ 1) (ret (.int (10)))) fun d => ret (.next (put σ 3 d))) (b__law_step_9 cf)
noncomputable def s__law_step (cf : CF) (a0 a1 a2 : D) : EM D :=
 finM (b__law_step_10 cf [some a0, some a1, some a2, none, none, none, none, none])
noncomputable def b__law_statement_by_0 (cf : CF) (σ : Sg) : EM Fl :=
 seqM (bnd (subS (lk σ 2) (ret (.int (0)))) fun d => ret (.ret d)) (nxt)
noncomputable def b__law_statement_by_1 (cf : CF) (σ : Sg) : EM Fl :=
 seqM (bnd (tupM (consM (ret (.str (Str.ofString "name"))) (consM (callN cf (Str.ofString "_law_name_by") (consM (lk σ 1) (consM (ret (.int (0))) (ret [])))) (ret [])))) fun d => ret (.ret d)) (nxt)
noncomputable def b__law_statement_by_2 (cf : CF) (σ : Sg) : EM Fl :=
 seqM (ifM (cmpS .Eq (lk σ 2) (lst0 (ret []))) (b__law_statement_by_1 cf σ) (nxt σ)) (b__law_statement_by_0 cf)
noncomputable def w__law_statement_by_3 (cf : CF) (σ : Sg) : EM Bool :=
 (cmpS .Gt (bnd (consM (lk σ 2) (ret [])) fun ds => bf0 .len ds) (ret (.int (1))))
noncomputable def b__law_statement_by_4 (cf : CF) (σ : Sg) : EM Fl :=
 seqM (bnd (binS .Add (sliS (lk σ 2) (ret .none) (bnd (ret (.int (2))) fun a => unop .USub a)) (lst0 (consM (tupM (consM (ret (.str (Str.ofString "then"))) (consM (subS (lk σ 2) (bnd (ret (.int (2))) fun a => unop .USub a)) (consM (subS (lk σ 2) (bnd (ret (.int (1))) fun a => unop .USub a)) (ret []))))) (ret [])))) fun d => ret (.next (put σ 2 d))) (nxt)
noncomputable def b__law_statement_by_5 (cf : CF) (σ : Sg) : EM Fl :=
 seqM (whileL (w__law_statement_by_3 cf) (b__law_statement_by_4 cf) (2 ^ 30) σ) (b__law_statement_by_2 cf)
noncomputable def b__law_statement_by_6 (cf : CF) (σ : Sg) : EM Fl :=
 seqM (bnd (bnd (consM (lk σ 2) (consM (lk σ 3) (consM (lk σ 1) (ret [])))) fun ds => cf (Str.ofString "_law_step") ds) fun d => ret (.next (put σ 2 d))) (nxt)
noncomputable def b__law_statement_by_7 (cf : CF) (σ : Sg) : EM Fl :=
 seqM (forM' (lk σ 0) (fun d σ => b__law_statement_by_6 cf (put σ 3 d)) σ) (b__law_statement_by_5 cf)
noncomputable def b__law_statement_by_8 (cf : CF) (σ : Sg) : EM Fl :=
 seqM (bnd (lst0 (ret [])) fun d => ret (.next (put σ 2 d))) (b__law_statement_by_7 cf)
noncomputable def s__law_statement_by (cf : CF) (a0 a1 : D) : EM D :=
 finM (b__law_statement_by_8 cf [some a0, some a1, none, none, none, none, none])
end
end Mine
end

section
namespace Mine
open PySem
noncomputable def bL (σ : Sg) (i : Nat) : Option Bool := match σ[i]? with
  | some (some (.bool b)) => some b
  | _ => none
noncomputable def dynL : List (Str × Option Bool) -> Option (List (Str × D))
  | [] => some []
  | (x, o) :: r => (o.map D.bool).bind fun y => (dynL r).map ((x, y) :: ·)
noncomputable def dynS (l : List (Str × Option Bool)) : EM D := match dynL l with
  | some kvs => if !kvs.isEmpty && decide (kvs.length <= 15) && decide (kvs.map (·.1)).Nodup then ret (.dict kvs) else stk
  | none => stk
noncomputable def bSortB : BImpl := ⟨.builtin "sorted", fun own args => on1 args fun a => onList a fun ds => match intsOf ds with
  | some ys => if ys.length < 64 then mkL own ((sortI ys).map .int) else stk
  | none => (match strsOf ds with
    | some ys => if ys.length < 64 then mkL own ((sortS ys).map .str) else stk
    | none => stk)⟩
noncomputable def bAny : BImpl := ⟨.builtin "any", fun _ args => on1 args fun a => onList a fun ds => optM ((boolsOf ds).map fun bs => .bool (bs.any id))⟩
noncomputable def min2 (args : List D) : EM D := match args with
  | [a, b] => onInts a b (fun i j => ret (.int (if j < i then j else i))) stk
  | _ => stk
noncomputable def bMin2 : BImpl := ⟨.builtin "min", fun _ args => min2 args⟩
end Mine
end

section
namespace Mine
namespace L11
open PySem
noncomputable section
noncomputable def c_JOINING : D := .tuple [.str (Str.ofString "and"), .str (Str.ofString "or"), .str (Str.ofString "then")]
noncomputable def c_MOST_PARTS : D := .int 16
noncomputable def consts11 : List (Str × D) := [(Str.ofString "JOINING", c_JOINING), (Str.ofString "MOST_PARTS", c_MOST_PARTS)]
noncomputable def meths11 : List (Str × MImpl) := [(Str.ofString "join", mJoin), (Str.ofString "index", mIndex), (Str.ofString "get", mGet1), (Str.ofString "append", mAppend)]
noncomputable def bfs11 : List (Str × BImpl) := [(Str.ofString "sorted", bSortB), (Str.ofString "min", bMin2), (Str.ofString "any", bAny)]
noncomputable def own11 (p : Pos) : Bool := p == ⟨16, 12, 16, 14⟩ || p == ⟨27, 22, 27, 24⟩ || p == ⟨30, 20, 30, 22⟩ || p == ⟨119, 14, 119, 16⟩ || p == ⟨145, 15, 145, 17⟩ || p == ⟨146, 30, 146, 32⟩ || p == ⟨148, 13, 148, 15⟩ || p == ⟨220, 21, 220, 120⟩
noncomputable def tab11 (p : Pos) : Bool := p == ⟨44, 16, 44, 18⟩
noncomputable def clss11 : List Str := [Str.ofString "Search"]
noncomputable def att11 (c x : Str) : Bool := c == Str.ofString "Search" && (x == Str.ofString "order" || x == Str.ofString "places" || x == Str.ofString "made")
noncomputable def cfs11 : List (Str × Fn) := cfsOf PySem.Challenge.pw_uf010036_11.main.body
noncomputable def fns11 : List (Str × Fn) := fnsOf PySem.Challenge.pw_uf010036_11.main.body
noncomputable def C11 : Cfg := { fns := fns11, consts := consts11, meths := meths11, own := own11, bfs := bfs11, tab0 := tab11, cfs := cfs11, clss := clss11, att := att11 }
noncomputable def fAt (x : Str) : Fn := match (fns11 ++ cfs11).lookup x with
  | some f => f
  | none => ⟨[], [], default⟩
noncomputable def f_law : Fn := fAt (Str.ofString "law")
noncomputable def b_put_parts_0 (cf : CF) (σ : Sg) : EM Fl :=
 seqM (bnd (ret (.bool true)) fun d => bnd (lk σ 0) fun a => bnd (lk σ 1) fun k => bnd (setItemM a k d) fun _ => ret (.next σ)) (nxt)
noncomputable def b_put_parts_1 (cf : CF) (σ : Sg) : EM Fl :=
 seqM (bnd (bnd (consM (lk σ 0) (consM (subS (lk σ 1) (ret (.int (2)))) (ret []))) fun ds => cf (Str.ofString "put_parts") ds) fun _ => ret (.next σ)) (nxt)
noncomputable def b_put_parts_2 (cf : CF) (σ : Sg) : EM Fl :=
 seqM (bnd (bnd (consM (lk σ 0) (consM (subS (lk σ 1) (ret (.int (1)))) (ret []))) fun ds => cf (Str.ofString "put_parts") ds) fun _ => ret (.next σ)) (b_put_parts_1 cf)
noncomputable def b_put_parts_3 (cf : CF) (σ : Sg) : EM Fl :=
 seqM (ifM (cmpS .In (subS (lk σ 1) (ret (.int (0)))) (ret c_JOINING)) (b_put_parts_2 cf σ) (nxt σ)) (b_put_parts_0 cf)
noncomputable def b_put_parts_4 (cf : CF) (σ : Sg) : EM Fl :=
 seqM (ret (.ret .none)) (nxt)
noncomputable def b_put_parts_5 (cf : CF) (σ : Sg) : EM Fl :=
 seqM (ifM (cmpS .In (lk σ 1) (lk σ 0)) (b_put_parts_4 cf σ) (nxt σ)) (b_put_parts_3 cf)
noncomputable def s_put_parts (cf : CF) (a0 a1 : D) : EM D :=
 finM (b_put_parts_5 cf [some a0, some a1, none, none])
noncomputable def b_parts_0 (cf : CF) (σ : Sg) : EM Fl :=
 seqM (bnd (bnd (consM (lk σ 1) (ret [])) fun ds => bf0 .list ds) fun d => ret (.ret d)) (nxt)
noncomputable def b_parts_1 (cf : CF) (σ : Sg) : EM Fl :=
 seqM (bnd (bnd (consM (lk σ 1) (consM (lk σ 0) (ret []))) fun ds => cf (Str.ofString "put_parts") ds) fun _ => ret (.next σ)) (b_parts_0 cf)
noncomputable def b_parts_2 (cf : CF) (σ : Sg) : EM Fl :=
 seqM (bnd (mkTab true) fun d => ret (.next (put σ 1 d))) (b_parts_1 cf)
noncomputable def s_parts (cf : CF) (a0 : D) : EM D :=
 finM (b_parts_2 cf [some a0, none, none, none])
noncomputable def b_with_one_0 (cf : CF) (σ : Sg) : EM Fl :=
 seqM (bnd (bnd (consM (bfS bSortB false (consM (binS .Add (bnd (consM (lk σ 0) (ret [])) fun ds => bf0 .list ds) (lst0 (consM (lk σ 1) (ret [])))) (ret []))) (ret [])) fun ds => bf0 .tuple ds) fun d => ret (.ret d)) (nxt)
noncomputable def b_with_one_1 (cf : CF) (σ : Sg) : EM Fl :=
 seqM (bnd (lk σ 0) fun d => ret (.ret d)) (nxt)
noncomputable def b_with_one_2 (cf : CF) (σ : Sg) : EM Fl :=
 seqM (ifM (cmpS .In (lk σ 1) (lk σ 0)) (b_with_one_1 cf σ) (nxt σ)) (b_with_one_0 cf)
noncomputable def s_with_one (cf : CF) (a0 a1 : D) : EM D :=
 finM (b_with_one_2 cf [some a0, some a1, none, none, none])
noncomputable def b_put_row_0 (cf : CF) (σ : Sg) : EM Fl :=
 seqM (bnd (subS (lk σ 2) (tupM (consM (lk σ 3) (consM (lk σ 4) (ret []))))) fun d => ret (.ret d)) (nxt)
noncomputable def t_put_row_1 (cf : CF) (σ : Sg) (d : D) : EM (Option D) :=
 (fun σc => turnS (ret true) (subS (attS C11 (Str.ofString "order") (lk σc 2)) (lk σc 1))) (put [none, none, (σ[0]?).join] 1 d)
noncomputable def b_put_row_2 (cf : CF) (σ : Sg) : EM Fl :=
 seqM (bnd (methS mAppend (lk σ 1) (consM (tupM (consM (bnd (consM (comp0 (lk σ 3) (t_put_row_1 cf σ)) (ret [])) fun ds => bf0 .tuple ds) (consM (subS (attS C11 (Str.ofString "order") (lk σ 0)) (lk σ 4)) (consM (lk σ 5) (consM (bnd (consM (lk σ 7) (ret [])) fun ds => bf0 .tuple ds) (ret [])))))) (ret []))) fun _ => ret (.next σ)) (nxt)
noncomputable def b_put_row_3 (cf : CF) (σ : Sg) : EM Fl :=
 seqM (bnd (bnd (consM (lk σ 1) (ret [])) fun ds => bf0 .len ds) fun d => bnd (lk σ 2) fun a => bnd (tupM (consM (lk σ 3) (consM (lk σ 4) (ret [])))) fun k => bnd (setItemM a k d) fun _ => ret (.next σ)) (b_put_row_2 cf)
noncomputable def b_put_row_4 (cf : CF) (σ : Sg) : EM Fl :=
 seqM (bnd (methS mAppend (lk σ 7) (consM (callN cf (Str.ofString "put_row") (consM (lk σ 0) (consM (lk σ 1) (consM (lk σ 2) (consM (subS (lk σ 8) (ret (.int (0)))) (consM (subS (lk σ 8) (ret (.int (1)))) (ret []))))))) (ret []))) fun _ => ret (.next σ)) (nxt)
noncomputable def b_put_row_5 (cf : CF) (σ : Sg) : EM Fl :=
 seqM (forM' (lk σ 6) (fun d σ => b_put_row_4 cf (put σ 8 d)) σ) (b_put_row_3 cf)
noncomputable def b_put_row_6 (cf : CF) (σ : Sg) : EM Fl :=
 seqM (bnd (lstO' (ret [])) fun d => ret (.next (put σ 7 d))) (b_put_row_5 cf)
noncomputable def b_put_row_7 (cf : CF) (σ : Sg) : EM Fl :=
 seqM (asgT [5, 6] σ (subS (oMeth C11 cf (Str.ofString "theory_from") (lk σ 0) (consM (lk σ 3) (ret []))) (lk σ 4))) (b_put_row_6 cf)
noncomputable def b_put_row_8 (cf : CF) (σ : Sg) : EM Fl :=
 seqM (ifM (cmpS .NotIn (tupM (consM (lk σ 3) (consM (lk σ 4) (ret [])))) (lk σ 2)) (b_put_row_7 cf σ) (nxt σ)) (b_put_row_0 cf)
noncomputable def s_put_row (cf : CF) (a0 a1 a2 a3 a4 : D) : EM D :=
 finM (b_put_row_8 cf [some a0, some a1, some a2, some a3, some a4, none, none, none, none, none, none, none])
noncomputable def b_filled_0 (cf : CF) (σ : Sg) : EM Fl :=
 seqM (bnd (lk σ 3) fun d => ret (.ret d)) (nxt)
noncomputable def b_filled_1 (cf : CF) (σ : Sg) : EM Fl :=
 seqM (bnd (bnd (consM (bfS bSortB false (consM (bnd (consM (lk σ 5) (ret [])) fun ds => bf0 .list ds) (ret []))) (ret [])) fun ds => bf0 .tuple ds) fun d => ret (.next (put σ 3 d))) (nxt)
noncomputable def b_filled_2 (cf : CF) (σ : Sg) : EM Fl :=
 seqM (ifM (cmpS .NotIn (lk σ 2) (lk σ 5)) (b_filled_1 cf σ) (nxt σ)) (nxt)
noncomputable def b_filled_3 (cf : CF) (σ : Sg) : EM Fl :=
 seqM (bnd (oMeth C11 cf (Str.ofString "theory_from") (lk σ 0) (consM (callN cf (Str.ofString "with_one") (consM (lk σ 3) (consM (lk σ 4) (ret [])))) (ret []))) fun d => ret (.next (put σ 5 d))) (b_filled_2 cf)
noncomputable def b_filled_4 (cf : CF) (σ : Sg) : EM Fl :=
 seqM (ifM (cmpS .NotIn (lk σ 4) (lk σ 3)) (b_filled_3 cf σ) (nxt σ)) (nxt)
noncomputable def b_filled_5 (cf : CF) (σ : Sg) : EM Fl :=
 seqM (forM' (bnd (consM (bnd (consM (attS C11 (Str.ofString "order") (lk σ 0)) (ret [])) fun ds => bf0 .len ds) (ret [])) fun ds => bf0 .range ds) (fun d σ => b_filled_4 cf (put σ 4 d)) σ) (b_filled_0 cf)
noncomputable def b_filled_6 (cf : CF) (σ : Sg) : EM Fl :=
 seqM (bnd (bnd (consM (bfS bSortB false (consM (bnd (consM (oMeth C11 cf (Str.ofString "theory_from") (lk σ 0) (consM (lk σ 1) (ret []))) (ret [])) fun ds => bf0 .list ds) (ret []))) (ret [])) fun ds => bf0 .tuple ds) fun d => ret (.next (put σ 3 d))) (b_filled_5 cf)
noncomputable def s_filled (cf : CF) (a0 a1 a2 : D) : EM D :=
 finM (b_filled_6 cf [some a0, some a1, some a2, none, none, none, none, none, none, none, none, none])
noncomputable def b_put_world_0 (cf : CF) (σ : Sg) : EM Fl :=
 seqM (bnd (bnd (consM (lk σ 0) (consM (lk σ 1) (consM (lk σ 8) (consM (callN cf (Str.ofString "with_one") (consM (lk σ 5) (consM (oMeth C11 cf (Str.ofString "half") (lk σ 0) (consM (lk σ 6) (consM (ret (.int (1))) (ret [])))) (ret [])))) (consM (oMeth C11 cf (Str.ofString "half") (lk σ 0) (consM (lk σ 6) (consM (ret (.int (2))) (ret [])))) (ret [])))))) fun ds => cf (Str.ofString "put_world") ds) fun _ => ret (.next σ)) (nxt)
noncomputable def b_put_world_1 (cf : CF) (σ : Sg) : EM Fl :=
 seqM (ifM (andM (cmpS .Eq (oMeth C11 cf (Str.ofString "kind") (lk σ 0) (consM (lk σ 6) (ret []))) (ret (.str (Str.ofString "then")))) (andM (cmpS .NotIn (lk σ 6) (lk σ 5)) (andM (cmpS .NotIn (oMeth C11 cf (Str.ofString "half") (lk σ 0) (consM (lk σ 6) (consM (ret (.int (1))) (ret [])))) (lk σ 5)) (ret true)))) (b_put_world_0 cf σ) (nxt σ)) (nxt)
noncomputable def b_put_world_2 (cf : CF) (σ : Sg) : EM Fl :=
 seqM (forM' (bnd (consM (bnd (consM (attS C11 (Str.ofString "order") (lk σ 0)) (ret [])) fun ds => bf0 .len ds) (ret [])) fun ds => bf0 .range ds) (fun d σ => b_put_world_1 cf (put σ 6 d)) σ) (nxt)
noncomputable def b_put_world_3 (cf : CF) (σ : Sg) : EM Fl :=
 seqM (bnd (methS mAppend (lk σ 1) (consM (tupM (consM (lk σ 2) (consM (bnd (consM (bfS bSortB false (consM (lk σ 7) (ret []))) (ret [])) fun ds => bf0 .tuple ds) (ret [])))) (ret []))) fun _ => ret (.next σ)) (b_put_world_2 cf)
noncomputable def b_put_world_4 (cf : CF) (σ : Sg) : EM Fl :=
 seqM (bnd (bnd (consM (lk σ 1) (ret [])) fun ds => bf0 .len ds) fun d => ret (.next (put σ 8 d))) (b_put_world_3 cf)
noncomputable def t_put_world_5 (cf : CF) (σ : Sg) (d : D) : EM (Option D) :=
 (fun σc => turnS (andM (cmpS .Eq (oMeth C11 cf (Str.ofString "kind") (lk σc 2) (consM (lk σc 1) (ret []))) (ret (.str (Str.ofString "name")))) (ret true)) (subS (subS (attS C11 (Str.ofString "order") (lk σc 2)) (lk σc 1)) (ret (.int (1))))) (put [none, none, (σ[0]?).join] 1 d)
noncomputable def b_put_world_6 (cf : CF) (σ : Sg) : EM Fl :=
 seqM (bnd (comp0 (lk σ 5) (t_put_world_5 cf σ)) fun d => ret (.next (put σ 7 d))) (b_put_world_4 cf)
noncomputable def b_put_world_7 (cf : CF) (σ : Sg) : EM Fl :=
 seqM (bnd (bnd (consM (lk σ 0) (consM (lk σ 3) (consM (lk σ 4) (ret [])))) fun ds => cf (Str.ofString "filled") ds) fun d => ret (.next (put σ 5 d))) (b_put_world_6 cf)
noncomputable def s_put_world (cf : CF) (a0 a1 a2 a3 a4 : D) : EM D :=
 finM (b_put_world_7 cf [some a0, some a1, some a2, some a3, some a4, none, none, none, none, none, none, none, none, none, none, none])
noncomputable def b_told_0 (cf : CF) (σ : Sg) : EM Fl :=
 seqM (bnd (tupM (consM (ret (.str (Str.ofString "worlds"))) (consM (bnd (consM (lk σ 4) (ret [])) fun ds => bf0 .tuple ds) (ret [])))) fun d => ret (.ret d)) (nxt)
noncomputable def b_told_1 (cf : CF) (σ : Sg) : EM Fl :=
 seqM (bnd (bnd (consM (lk σ 1) (consM (lk σ 4) (consM (ret .none) (consM (tupM (ret [])) (consM (lk σ 2) (ret [])))))) fun ds => cf (Str.ofString "put_world") ds) fun _ => ret (.next σ)) (b_told_0 cf)
noncomputable def b_told_2 (cf : CF) (σ : Sg) : EM Fl :=
 seqM (bnd (lstO' (ret [])) fun d => ret (.next (put σ 4 d))) (b_told_1 cf)
noncomputable def b_told_3 (cf : CF) (σ : Sg) : EM Fl :=
 seqM (bnd (tupM (consM (ret (.str (Str.ofString "shown"))) (consM (lk σ 3) (ret [])))) fun d => ret (.ret d)) (nxt)
noncomputable def b_told_4 (cf : CF) (σ : Sg) : EM Fl :=
 seqM (bnd (bnd (consM (lk σ 1) (consM (lk σ 3) (consM (mkTab true) (consM (tupM (ret [])) (consM (lk σ 2) (ret [])))))) fun ds => cf (Str.ofString "put_row") ds) fun _ => ret (.next σ)) (b_told_3 cf)
noncomputable def b_told_5 (cf : CF) (σ : Sg) : EM Fl :=
 seqM (bnd (lstO' (ret [])) fun d => ret (.next (put σ 3 d))) (b_told_4 cf)
noncomputable def b_told_6 (cf : CF) (σ : Sg) : EM Fl :=
 seqM (ifM (cmpS .In (lk σ 2) (oMeth C11 cf (Str.ofString "theory_from") (lk σ 1) (consM (tupM (ret [])) (ret [])))) (b_told_5 cf σ) (nxt σ)) (b_told_2 cf)
noncomputable def b_told_7 (cf : CF) (σ : Sg) : EM Fl :=
 seqM (bnd (subS (attS C11 (Str.ofString "places") (lk σ 1)) (lk σ 0)) fun d => ret (.next (put σ 2 d))) (b_told_6 cf)
noncomputable def b_told_8 (cf : CF) (σ : Sg) : EM Fl :=
 seqM (bnd (newS C11 cf (Str.ofString "Search") (consM (lk σ 0) (ret []))) fun d => ret (.next (put σ 1 d))) (b_told_7 cf)
noncomputable def s_told (cf : CF) (a0 : D) : EM D :=
 finM (b_told_8 cf [some a0, none, none, none, none, none, none, none, none])
noncomputable def b_is_shown_0 (cf : CF) (σ : Sg) : EM Fl :=
 seqM (bnd (cmpB .In (subS (attS C11 (Str.ofString "places") (lk σ 1)) (lk σ 0)) (oMeth C11 cf (Str.ofString "theory_from") (lk σ 1) (consM (tupM (ret [])) (ret [])))) fun d => ret (.ret d)) (nxt)
noncomputable def b_is_shown_1 (cf : CF) (σ : Sg) : EM Fl :=
 seqM (bnd (newS C11 cf (Str.ofString "Search") (consM (lk σ 0) (ret []))) fun d => ret (.next (put σ 1 d))) (b_is_shown_0 cf)
noncomputable def s_is_shown (cf : CF) (a0 : D) : EM D :=
 finM (b_is_shown_1 cf [some a0, none, none])
noncomputable def b__law_known_by_0 (cf : CF) (σ : Sg) : EM Fl :=
 seqM (bnd (subS (lk σ 7) (binS .Mod (lk σ 1) (ret (.int (20))))) fun d => ret (.ret d)) (nxt)
noncomputable def b__law_known_by_1 (cf : CF) (σ : Sg) : EM Fl :=
 seqM (bnd (binS .Add (lk σ 7) (lst0 (consM (tupM (consM (ret (.str (Str.ofString "then"))) (consM (tupM (consM (ret (.str (Str.ofString "then"))) (consM (lk σ 2) (consM (lk σ 3) (ret []))))) (consM (tupM (consM (ret (.str (Str.ofString "then"))) (consM (tupM (consM (ret (.str (Str.ofString "then"))) (consM (lk σ 3) (consM (lk σ 4) (ret []))))) (consM (tupM (consM (ret (.str (Str.ofString "then"))) (consM (lk σ 2) (consM (lk σ 4) (ret []))))) (ret []))))) (ret []))))) (ret [])))) fun d => ret (.next (put σ 7 d))) (b__law_known_by_0 cf)
noncomputable def b__law_known_by_2 (cf : CF) (σ : Sg) : EM Fl :=
 seqM (bnd (binS .Add (lk σ 7) (lst0 (consM (tupM (consM (ret (.str (Str.ofString "then"))) (consM (lk σ 5) (consM (lk σ 2) (ret []))))) (consM (lk σ 2) (consM (tupM (consM (ret (.str (Str.ofString "and"))) (consM (tupM (consM (ret (.str (Str.ofString "then"))) (consM (lk σ 2) (consM (lk σ 2) (ret []))))) (consM (lk σ 3) (ret []))))) (ret [])))))) fun d => ret (.next (put σ 7 d))) (b__law_known_by_1 cf)
noncomputable def b__law_known_by_3 (cf : CF) (σ : Sg) : EM Fl :=
 seqM (bnd (binS .Add (lk σ 7) (lst0 (consM (tupM (consM (ret (.str (Str.ofString "then"))) (consM (tupM (consM (ret (.str (Str.ofString "then"))) (consM (lk σ 8) (consM (tupM (consM (ret (.str (Str.ofString "or"))) (consM (lk σ 3) (consM (lk σ 4) (ret []))))) (ret []))))) (consM (tupM (consM (ret (.str (Str.ofString "or"))) (consM (tupM (consM (ret (.str (Str.ofString "then"))) (consM (lk σ 8) (consM (lk σ 3) (ret []))))) (consM (tupM (consM (ret (.str (Str.ofString "then"))) (consM (lk σ 8) (consM (lk σ 4) (ret []))))) (ret []))))) (ret []))))) (ret [])))) fun d => ret (.next (put σ 7 d))) (b__law_known_by_2 cf)
noncomputable def b__law_known_by_4 (cf : CF) (σ : Sg) : EM Fl :=
 seqM (bnd (tupM (consM (ret (.str (Str.ofString "then"))) (consM (lk σ 2) (consM (lk σ 5) (ret []))))) fun d => ret (.next (put σ 8 d))) (b__law_known_by_3 cf)
noncomputable def b__law_known_by_5 (cf : CF) (σ : Sg) : EM Fl :=
 seqM (bnd (binS .Add (lk σ 7) (lst0 (consM (tupM (consM (ret (.str (Str.ofString "then"))) (consM (tupM (consM (ret (.str (Str.ofString "then"))) (consM (lk σ 2) (consM (lk σ 3) (ret []))))) (consM (tupM (consM (ret (.str (Str.ofString "or"))) (consM (tupM (consM (ret (.str (Str.ofString "then"))) (consM (lk σ 2) (consM (lk σ 5) (ret []))))) (consM (lk σ 3) (ret []))))) (ret []))))) (ret [])))) fun d => ret (.next (put σ 7 d))) (b__law_known_by_4 cf)
noncomputable def b__law_known_by_6 (cf : CF) (σ : Sg) : EM Fl :=
 seqM (bnd (binS .Add (lk σ 7) (lst0 (consM (tupM (consM (ret (.str (Str.ofString "then"))) (consM (tupM (consM (ret (.str (Str.ofString "or"))) (consM (tupM (consM (ret (.str (Str.ofString "then"))) (consM (lk σ 2) (consM (lk σ 5) (ret []))))) (consM (lk σ 3) (ret []))))) (consM (tupM (consM (ret (.str (Str.ofString "then"))) (consM (lk σ 2) (consM (lk σ 3) (ret []))))) (ret []))))) (ret [])))) fun d => ret (.next (put σ 7 d))) (b__law_known_by_5 cf)
noncomputable def b__law_known_by_7 (cf : CF) (σ : Sg) : EM Fl :=
 seqM (bnd (binS .Add (lk σ 7) (lst0 (consM (tupM (consM (ret (.str (Str.ofString "then"))) (consM (tupM (consM (ret (.str (Str.ofString "and"))) (consM (tupM (consM (ret (.str (Str.ofString "or"))) (consM (lk σ 2) (consM (lk σ 3) (ret []))))) (consM (tupM (consM (ret (.str (Str.ofString "or"))) (consM (lk σ 2) (consM (lk σ 4) (ret []))))) (ret []))))) (consM (tupM (consM (ret (.str (Str.ofString "or"))) (consM (lk σ 2) (consM (tupM (consM (ret (.str (Str.ofString "and"))) (consM (lk σ 3) (consM (lk σ 4) (ret []))))) (ret []))))) (ret []))))) (ret [])))) fun d => ret (.next (put σ 7 d))) (b__law_known_by_6 cf)
noncomputable def b__law_known_by_8 (cf : CF) (σ : Sg) : EM Fl :=
 seqM (bnd (binS .Add (lk σ 7) (lst0 (consM (tupM (consM (ret (.str (Str.ofString "then"))) (consM (tupM (consM (ret (.str (Str.ofString "or"))) (consM (lk σ 2) (consM (tupM (consM (ret (.str (Str.ofString "and"))) (consM (lk σ 3) (consM (lk σ 4) (ret []))))) (ret []))))) (consM (tupM (consM (ret (.str (Str.ofString "and"))) (consM (tupM (consM (ret (.str (Str.ofString "or"))) (consM (lk σ 2) (consM (lk σ 3) (ret []))))) (consM (tupM (consM (ret (.str (Str.ofString "or"))) (consM (lk σ 2) (consM (lk σ 4) (ret []))))) (ret []))))) (ret []))))) (ret [])))) fun d => ret (.next (put σ 7 d))) (b__law_known_by_7 cf)
noncomputable def b__law_known_by_9 (cf : CF) (σ : Sg) : EM Fl :=
 seqM (bnd (binS .Add (lk σ 7) (lst0 (consM (tupM (consM (ret (.str (Str.ofString "then"))) (consM (tupM (consM (ret (.str (Str.ofString "then"))) (consM (tupM (consM (ret (.str (Str.ofString "then"))) (consM (tupM (consM (ret (.str (Str.ofString "then"))) (consM (lk σ 2) (consM (lk σ 5) (ret []))))) (consM (lk σ 5) (ret []))))) (consM (lk σ 5) (ret []))))) (consM (tupM (consM (ret (.str (Str.ofString "then"))) (consM (lk σ 2) (consM (lk σ 5) (ret []))))) (ret []))))) (ret [])))) fun d => ret (.next (put σ 7 d))) (b__law_known_by_8 cf)
noncomputable def b__law_known_by_10 (cf : CF) (σ : Sg) : EM Fl :=
 seqM (bnd (binS .Add (lk σ 7) (lst0 (consM (tupM (consM (ret (.str (Str.ofString "then"))) (consM (tupM (consM (ret (.str (Str.ofString "then"))) (consM (tupM (consM (ret (.str (Str.ofString "and"))) (consM (lk σ 2) (consM (lk σ 3) (ret []))))) (consM (lk σ 5) (ret []))))) (consM (tupM (consM (ret (.str (Str.ofString "or"))) (consM (tupM (consM (ret (.str (Str.ofString "then"))) (consM (lk σ 2) (consM (lk σ 5) (ret []))))) (consM (tupM (consM (ret (.str (Str.ofString "then"))) (consM (lk σ 3) (consM (lk σ 5) (ret []))))) (ret []))))) (ret []))))) (ret [])))) fun d => ret (.next (put σ 7 d))) (b__law_known_by_9 cf)
noncomputable def b__law_known_by_11 (cf : CF) (σ : Sg) : EM Fl :=
 seqM (bnd (binS .Add (lk σ 7) (lst0 (consM (tupM (consM (ret (.str (Str.ofString "then"))) (consM (tupM (consM (ret (.str (Str.ofString "then"))) (consM (tupM (consM (ret (.str (Str.ofString "or"))) (consM (lk σ 2) (consM (lk σ 3) (ret []))))) (consM (lk σ 4) (ret []))))) (consM (tupM (consM (ret (.str (Str.ofString "and"))) (consM (tupM (consM (ret (.str (Str.ofString "then"))) (consM (lk σ 2) (consM (lk σ 4) (ret []))))) (consM (tupM (consM (ret (.str (Str.ofString "then"))) (consM (lk σ 3) (consM (lk σ 4) (ret []))))) (ret []))))) (ret []))))) (ret [])))) fun d => ret (.next (put σ 7 d))) (b__law_known_by_10 cf)
noncomputable def b__law_known_by_12 (cf : CF) (σ : Sg) : EM Fl :=
 seqM (bnd (binS .Add (lk σ 7) (lst0 (consM (tupM (consM (ret (.str (Str.ofString "then"))) (consM (tupM (consM (ret (.str (Str.ofString "then"))) (consM (lk σ 2) (consM (tupM (consM (ret (.str (Str.ofString "then"))) (consM (lk σ 3) (consM (lk σ 4) (ret []))))) (ret []))))) (consM (tupM (consM (ret (.str (Str.ofString "then"))) (consM (tupM (consM (ret (.str (Str.ofString "and"))) (consM (lk σ 2) (consM (lk σ 3) (ret []))))) (consM (lk σ 4) (ret []))))) (ret []))))) (ret [])))) fun d => ret (.next (put σ 7 d))) (b__law_known_by_11 cf)
noncomputable def b__law_known_by_13 (cf : CF) (σ : Sg) : EM Fl :=
 seqM (bnd (binS .Add (lk σ 7) (lst0 (consM (tupM (consM (ret (.str (Str.ofString "then"))) (consM (tupM (consM (ret (.str (Str.ofString "and"))) (consM (lk σ 2) (consM (lk σ 3) (ret []))))) (consM (tupM (consM (ret (.str (Str.ofString "or"))) (consM (lk σ 4) (consM (lk σ 3) (ret []))))) (ret []))))) (consM (tupM (consM (ret (.str (Str.ofString "then"))) (consM (tupM (consM (ret (.str (Str.ofString "or"))) (consM (lk σ 2) (consM (lk σ 3) (ret []))))) (consM (tupM (consM (ret (.str (Str.ofString "or"))) (consM (lk σ 3) (consM (lk σ 2) (ret []))))) (ret []))))) (ret []))))) fun d => ret (.next (put σ 7 d))) (b__law_known_by_12 cf)
noncomputable def b__law_known_by_14 (cf : CF) (σ : Sg) : EM Fl :=
 seqM (bnd (binS .Add (lk σ 7) (lst0 (consM (tupM (consM (ret (.str (Str.ofString "then"))) (consM (tupM (consM (ret (.str (Str.ofString "then"))) (consM (tupM (consM (ret (.str (Str.ofString "then"))) (consM (lk σ 2) (consM (lk σ 3) (ret []))))) (consM (lk σ 2) (ret []))))) (consM (lk σ 2) (ret []))))) (consM (tupM (consM (ret (.str (Str.ofString "or"))) (consM (tupM (consM (ret (.str (Str.ofString "then"))) (consM (lk σ 2) (consM (lk σ 3) (ret []))))) (consM (tupM (consM (ret (.str (Str.ofString "then"))) (consM (lk σ 3) (consM (lk σ 2) (ret []))))) (ret []))))) (ret []))))) fun d => ret (.next (put σ 7 d))) (b__law_known_by_13 cf)
noncomputable def b__law_known_by_15 (cf : CF) (σ : Sg) : EM Fl :=
 seqM (bnd (lst0 (consM (lk σ 6) (consM (tupM (consM (ret (.str (Str.ofString "then"))) (consM (tupM (consM (ret (.str (Str.ofString "then"))) (consM (lk σ 6) (consM (lk σ 5) (ret []))))) (consM (lk σ 5) (ret []))))) (consM (tupM (consM (ret (.str (Str.ofString "then"))) (consM (tupM (consM (ret (.str (Str.ofString "then"))) (consM (tupM (consM (ret (.str (Str.ofString "then"))) (consM (lk σ 2) (consM (lk σ 5) (ret []))))) (consM (lk σ 5) (ret []))))) (consM (lk σ 2) (ret []))))) (ret []))))) fun d => ret (.next (put σ 7 d))) (b__law_known_by_14 cf)
noncomputable def b__law_known_by_16 (cf : CF) (σ : Sg) : EM Fl :=
 seqM (bnd (tupM (consM (ret (.str (Str.ofString "or"))) (consM (lk σ 2) (consM (tupM (consM (ret (.str (Str.ofString "then"))) (consM (lk σ 2) (consM (lk σ 5) (ret []))))) (ret []))))) fun d => ret (.next (put σ 6 d))) (b__law_known_by_15 cf)
noncomputable def b__law_known_by_17 (cf : CF) (σ : Sg) : EM Fl :=
 seqM (bnd (tupM (consM (ret (.str (Str.ofString "false"))) (ret []))) fun d => ret (.next (put σ 5 d))) (b__law_known_by_16 cf)
noncomputable def t__law_known_by_18 (cf : CF) (σ : Sg) (d : D) : EM (Option D) :=
 (fun σc => turnS (ret true) (tupM (consM (ret (.str (Str.ofString "name"))) (consM (callN cf (Str.ofString "_law_name_by") (consM (lk σc 3) (consM (lk σc 1) (ret [])))) (ret []))))) (put [none, none, none, (σ[0]?).join] 1 d)
noncomputable def b__law_known_by_19 (cf : CF) (σ : Sg) : EM Fl :=
 seqM (asgT [2, 3, 4] σ (comp0 (lst0 (consM (binS .Mod (binS .FloorDiv (lk σ 1) (ret (.int (20)))) (ret (.int (3)))) (consM (binS .Mod (binS .Add (binS .FloorDiv (lk σ 1) (ret (.int (20)))) (ret (.int (1)))) (ret (.int (3)))) (consM (binS .Mod (binS .Add (binS .FloorDiv (lk σ 1) (ret (.int (20)))) (ret (.int (2)))) (ret (.int (3)))) (ret []))))) (t__law_known_by_18 cf σ))) (b__law_known_by_17 cf)
noncomputable def s__law_known_by (cf : CF) (a0 a1 : D) : EM D :=
 finM (b__law_known_by_19 cf [some a0, some a1, none, none, none, none, none, none, none])
noncomputable def b__law_wide_0 (cf : CF) (σ : Sg) : EM Fl :=
 seqM (bnd (subS (lst0 (consM (tupM (consM (ret (.str (Str.ofString "then"))) (consM (lk σ 9) (consM (subS (lk σ 5) (lk σ 6)) (ret []))))) (consM (tupM (consM (ret (.str (Str.ofString "then"))) (consM (subS (lk σ 5) (lk σ 6)) (consM (lk σ 9) (ret []))))) (ret [])))) (binS .Mod (binS .FloorDiv (lk σ 1) (ret (.int (294)))) (ret (.int (2))))) fun d => ret (.ret d)) (nxt)
noncomputable def b__law_wide_1 (cf : CF) (σ : Sg) : EM Fl :=
 seqM (bnd (tupM (consM (ret (.str (Str.ofString "then"))) (consM (lk σ 9) (consM (lk σ 12) (ret []))))) fun d => ret (.ret d)) (nxt)
noncomputable def b__law_wide_2 (cf : CF) (σ : Sg) : EM Fl :=
 seqM (ifM (andM (cmpS .Eq (lk σ 7) (ret (.int (2)))) (andM (cmpS .Lt (lk σ 3) (ret (.int (6)))) (ret true))) (b__law_wide_1 cf σ) (nxt σ)) (b__law_wide_0 cf)
noncomputable def b__law_wide_3 (cf : CF) (σ : Sg) : EM Fl :=
 seqM (bnd (tupM (consM (lk σ 11) (consM (subS (lk σ 5) (lk σ 4)) (consM (lk σ 12) (ret []))))) fun d => ret (.next (put σ 12 d))) (nxt)
noncomputable def b__law_wide_4 (cf : CF) (σ : Sg) : EM Fl :=
 seqM (bnd (tupM (consM (lk σ 11) (consM (subS (lk σ 5) (binS .Sub (binS .Sub (lk σ 3) (ret (.int (1)))) (lk σ 4))) (consM (lk σ 9) (ret []))))) fun d => ret (.next (put σ 9 d))) (b__law_wide_3 cf)
noncomputable def b__law_wide_5 (cf : CF) (σ : Sg) : EM Fl :=
 seqM (forM' (bnd (consM (ret (.int (1))) (consM (lk σ 3) (ret []))) fun ds => bf0 .range ds) (fun d σ => b__law_wide_4 cf (put σ 4 d)) σ) (b__law_wide_2 cf)
noncomputable def b__law_wide_6 (cf : CF) (σ : Sg) : EM Fl :=
 seqM (bnd (subS (lk σ 5) (ret (.int (0)))) fun d => ret (.next (put σ 12 d))) (b__law_wide_5 cf)
noncomputable def b__law_wide_7 (cf : CF) (σ : Sg) : EM Fl :=
 seqM (bnd (subS (lk σ 5) (binS .Sub (lk σ 3) (ret (.int (1))))) fun d => ret (.next (put σ 9 d))) (b__law_wide_6 cf)
noncomputable def b__law_wide_8 (cf : CF) (σ : Sg) : EM Fl :=
 seqM (bnd (subS (lst0 (consM (ret (.str (Str.ofString "and"))) (consM (ret (.str (Str.ofString "or"))) (consM (ret (.str (Str.ofString "or"))) (consM (ret (.str (Str.ofString "then"))) (ret [])))))) (lk σ 7)) fun d => ret (.next (put σ 11 d))) (b__law_wide_7 cf)
noncomputable def b__law_wide_9 (cf : CF) (σ : Sg) : EM Fl :=
 seqM (bnd (tupM (consM (ret (.str (Str.ofString "then"))) (consM (lk σ 9) (consM (tupM (consM (ret (.str (Str.ofString "then"))) (consM (subS (lk σ 5) (ret (.int (0)))) (consM (subS (lk σ 5) (binS .Sub (lk σ 3) (ret (.int (1))))) (ret []))))) (ret []))))) fun d => ret (.ret d)) (nxt)
noncomputable def b__law_wide_10 (cf : CF) (σ : Sg) : EM Fl :=
 seqM (bnd (tupM (consM (ret (.str (Str.ofString "and"))) (consM (lk σ 9) (consM (lk σ 10) (ret []))))) fun d => ret (.next (put σ 9 d))) (nxt)
noncomputable def b__law_wide_11 (cf : CF) (σ : Sg) : EM Fl :=
 seqM (forM' (sliS (lk σ 8) (ret (.int (1))) (ret .none)) (fun d σ => b__law_wide_10 cf (put σ 10 d)) σ) (b__law_wide_9 cf)
noncomputable def b__law_wide_12 (cf : CF) (σ : Sg) : EM Fl :=
 seqM (bnd (subS (lk σ 8) (ret (.int (0)))) fun d => ret (.next (put σ 9 d))) (b__law_wide_11 cf)
noncomputable def b__law_wide_13 (cf : CF) (σ : Sg) : EM Fl :=
 seqM (bnd (subS (lk σ 5) (binS .Mod (lk σ 6) (lk σ 3))) fun d => bnd (lk σ 8) fun a => bnd (binS .Mod (lk σ 6) (binS .Sub (lk σ 3) (ret (.int (1))))) fun k => bnd (setItemM a k d) fun _ => ret (.next σ)) (nxt)
noncomputable def b__law_wide_14 (cf : CF) (σ : Sg) : EM Fl :=
 seqM (ifM (cmpS .Eq (lk σ 7) (ret (.int (5)))) (b__law_wide_13 cf σ) (nxt σ)) (b__law_wide_12 cf)
noncomputable def t__law_wide_15 (cf : CF) (σ : Sg) (d : D) : EM (Option D) :=
 (fun σc => turnS (ret true) (tupM (consM (ret (.str (Str.ofString "then"))) (consM (subS (lk σc 2) (lk σc 1)) (consM (subS (lk σc 2) (binS .Add (lk σc 1) (ret (.int (1))))) (ret [])))))) (put [none, none, (σ[5]?).join] 1 d)
noncomputable def b__law_wide_16 (cf : CF) (σ : Sg) : EM Fl :=
 seqM (bnd (compO (bnd (consM (binS .Sub (lk σ 3) (ret (.int (1)))) (ret [])) fun ds => bf0 .range ds) (t__law_wide_15 cf σ)) fun d => ret (.next (put σ 8 d))) (b__law_wide_14 cf)
noncomputable def b__law_wide_17 (cf : CF) (σ : Sg) : EM Fl :=
 seqM (bnd (bfS bMin2 false (consM (lk σ 3) (consM (ret (.int (5))) (ret [])))) fun d => ret (.next (put σ 3 d))) (b__law_wide_16 cf)
noncomputable def b__law_wide_18 (cf : CF) (σ : Sg) : EM Fl :=
 seqM (ifM (cmpS .Gt (lk σ 7) (ret (.int (3)))) (b__law_wide_17 cf σ) (nxt σ)) (b__law_wide_8 cf)
noncomputable def b__law_wide_19 (cf : CF) (σ : Sg) : EM Fl :=
 seqM (bnd (binS .Mod (lk σ 1) (ret (.int (6)))) fun d => ret (.next (put σ 7 d))) (b__law_wide_18 cf)
noncomputable def b__law_wide_20 (cf : CF) (σ : Sg) : EM Fl :=
 seqM (bnd (binS .Mod (binS .FloorDiv (lk σ 1) (ret (.int (42)))) (lk σ 3)) fun d => ret (.next (put σ 6 d))) (b__law_wide_19 cf)
noncomputable def t__law_wide_21 (cf : CF) (σ : Sg) (d : D) : EM (Option D) :=
 (fun σc => turnS (ret true) (tupM (consM (ret (.str (Str.ofString "name"))) (consM (callN cf (Str.ofString "_law_name_by") (consM (binS .Mod (lk σc 3) (ret (.int (1664)))) (consM (lk σc 1) (ret [])))) (ret []))))) (put [none, none, none, (σ[0]?).join] 1 d)
noncomputable def b__law_wide_22 (cf : CF) (σ : Sg) : EM Fl :=
 seqM (bnd (comp0 (bnd (consM (lk σ 3) (ret [])) fun ds => bf0 .range ds) (t__law_wide_21 cf σ)) fun d => ret (.next (put σ 5 d))) (b__law_wide_20 cf)
noncomputable def b__law_wide_23 (cf : CF) (σ : Sg) : EM Fl :=
 seqM (bnd (binS .Add (ret (.int (2))) (binS .Mod (binS .FloorDiv (lk σ 1) (ret (.int (6)))) (binS .Sub (lk σ 2) (ret (.int (1)))))) fun d => ret (.next (put σ 3 d))) (b__law_wide_22 cf)
noncomputable def s__law_wide (cf : CF) (a0 a1 a2 : D) : EM D :=
 finM (b__law_wide_23 cf [some a0, some a1, some a2, none, none, none, none, none, none, none, none, none, none, none, none])
noncomputable def b__law_drawn_0 (cf : CF) (σ : Sg) : EM Fl :=
 seqM (bnd (bnd (consM (sliS (lk σ 0) (binS .Add (lk σ 1) (ret (.int (1)))) (binS .Add (binS .Add (lk σ 1) (ret (.int (1)))) (lk σ 2))) (consM (lk σ 4) (ret []))) fun ds => cf (Str.ofString "_law_statement_by") ds) fun d => ret (.ret d)) (nxt)
noncomputable def b__law_drawn_1 (cf : CF) (σ : Sg) : EM Fl :=
 seqM (bnd (bnd (consM (lk σ 4) (consM (binS .FloorDiv (lk σ 5) (ret (.int (2)))) (ret []))) fun ds => cf (Str.ofString "_law_known_by") ds) fun d => ret (.ret d)) (nxt)
noncomputable def b__law_drawn_2 (cf : CF) (σ : Sg) : EM Fl :=
 seqM (ifM (cmpS .Eq (binS .Mod (lk σ 5) (ret (.int (2)))) (ret (.int (1)))) (b__law_drawn_1 cf σ) (nxt σ)) (b__law_drawn_0 cf)
noncomputable def b__law_drawn_3 (cf : CF) (σ : Sg) : EM Fl :=
 seqM (bnd (bnd (consM (lk σ 4) (consM (binS .FloorDiv (lk σ 5) (ret (.int (8)))) (consM (lk σ 3) (ret [])))) fun ds => cf (Str.ofString "_law_wide") ds) fun d => ret (.ret d)) (nxt)
noncomputable def b__law_drawn_4 (cf : CF) (σ : Sg) : EM Fl :=
 seqM (ifM (cmpS .Eq (binS .Mod (lk σ 5) (ret (.int (8)))) (ret (.int (5)))) (b__law_drawn_3 cf σ) (nxt σ)) (b__law_drawn_2 cf)
noncomputable def b__law_drawn_5 (cf : CF) (σ : Sg) : EM Fl :=
 seqM (bnd (bnd (consM (lk σ 0) (consM (lk σ 1) (ret []))) fun ds => cf (Str.ofString "_law_cell_at") ds) fun d => ret (.next (put σ 5 d))) (b__law_drawn_4 cf)
noncomputable def b__law_drawn_6 (cf : CF) (σ : Sg) : EM Fl :=
 seqM (bnd (bnd (consM (lk σ 0) (consM (ret (.int (0))) (ret []))) fun ds => cf (Str.ofString "_law_cell_at") ds) fun d => ret (.next (put σ 4 d))) (b__law_drawn_5 cf)
noncomputable def s__law_drawn (cf : CF) (a0 a1 a2 a3 : D) : EM D :=
 finM (b__law_drawn_6 cf [some a0, some a1, some a2, some a3, none, none, none, none, none, none])
noncomputable def t__law_names_0 (cf : CF) (σ : Sg) (d : D) : EM (Option D) :=
 (fun σc => turnS (andM (cmpS .NotIn (lk σc 1) (lk σc 2)) (ret true)) (lk σc 1)) (put [none, none, (σ[1]?).join] 1 d)
noncomputable def b__law_names_1 (cf : CF) (σ : Sg) : EM Fl :=
 seqM (bnd (binS .Add (lk σ 1) (comp0 (callN cf (Str.ofString "_law_names") (consM (subS (lk σ 0) (ret (.int (2)))) (ret []))) (t__law_names_0 cf σ))) fun d => ret (.ret d)) (nxt)
noncomputable def b__law_names_2 (cf : CF) (σ : Sg) : EM Fl :=
 seqM (bnd (bnd (consM (subS (lk σ 0) (ret (.int (1)))) (ret [])) fun ds => cf (Str.ofString "_law_names") ds) fun d => ret (.next (put σ 1 d))) (b__law_names_1 cf)
noncomputable def b__law_names_3 (cf : CF) (σ : Sg) : EM Fl :=
 seqM (bnd (lst0 (ret [])) fun d => ret (.ret d)) (nxt)
noncomputable def b__law_names_4 (cf : CF) (σ : Sg) : EM Fl :=
 seqM (ifM (cmpS .Eq (bnd (consM (lk σ 0) (ret [])) fun ds => bf0 .len ds) (ret (.int (1)))) (b__law_names_3 cf σ) (nxt σ)) (b__law_names_2 cf)
noncomputable def b__law_names_5 (cf : CF) (σ : Sg) : EM Fl :=
 seqM (bnd (lst0 (consM (subS (lk σ 0) (ret (.int (1)))) (ret []))) fun d => ret (.ret d)) (nxt)
noncomputable def b__law_names_6 (cf : CF) (σ : Sg) : EM Fl :=
 seqM (ifM (cmpS .Eq (bnd (consM (lk σ 0) (ret [])) fun ds => bf0 .len ds) (ret (.int (2)))) (b__law_names_5 cf σ) (nxt σ)) (b__law_names_4 cf)
noncomputable def s__law_names (cf : CF) (a0 : D) : EM D :=
 finM (b__law_names_6 cf [some a0, none, none, none])
noncomputable def b__law_true_0 (cf : CF) (σ : Sg) : EM Fl :=
 seqM (bnd (subS (dynS [((Str.ofString "and"), (bL σ 4).bind fun x => (bL σ 5).map fun y => bOp .And x y), ((Str.ofString "or"), (bL σ 4).bind fun x => (bL σ 5).map fun y => bOp .Or x y), ((Str.ofString "then"), (bL σ 5).bind fun x => ((bL σ 4).map (!·)).map fun y => bOp .Or x y)]) (lk σ 3)) fun d => ret (.ret d)) (nxt)
noncomputable def b__law_true_1 (cf : CF) (σ : Sg) : EM Fl :=
 seqM (bnd (bnd (consM (subS (lk σ 0) (ret (.int (2)))) (consM (lk σ 1) (consM (lk σ 2) (ret [])))) fun ds => cf (Str.ofString "_law_true") ds) fun d => ret (.next (put σ 5 d))) (b__law_true_0 cf)
noncomputable def b__law_true_2 (cf : CF) (σ : Sg) : EM Fl :=
 seqM (bnd (bnd (consM (subS (lk σ 0) (ret (.int (1)))) (consM (lk σ 1) (consM (lk σ 2) (ret [])))) fun ds => cf (Str.ofString "_law_true") ds) fun d => ret (.next (put σ 4 d))) (b__law_true_1 cf)
noncomputable def b__law_true_3 (cf : CF) (σ : Sg) : EM Fl :=
 seqM (bnd (ret (.bool false)) fun d => ret (.ret d)) (nxt)
noncomputable def b__law_true_4 (cf : CF) (σ : Sg) : EM Fl :=
 seqM (ifM (cmpS .Eq (lk σ 3) (ret (.str (Str.ofString "false")))) (b__law_true_3 cf σ) (nxt σ)) (b__law_true_2 cf)
noncomputable def b__law_true_5 (cf : CF) (σ : Sg) : EM Fl :=
 seqM (bnd (cmpB .Eq (binS .Mod (binS .FloorDiv (lk σ 2) (subS (lst0 (consM (ret (.int (1))) (consM (ret (.int (2))) (consM (ret (.int (4))) (consM (ret (.int (8))) (ret [])))))) (methS mIndex (lk σ 1) (consM (subS (lk σ 0) (ret (.int (1)))) (ret []))))) (ret (.int (2)))) (ret (.int (1)))) fun d => ret (.ret d)) (nxt)
noncomputable def b__law_true_6 (cf : CF) (σ : Sg) : EM Fl :=
 seqM (ifM (cmpS .Eq (lk σ 3) (ret (.str (Str.ofString "name")))) (b__law_true_5 cf σ) (nxt σ)) (b__law_true_4 cf)
noncomputable def b__law_true_7 (cf : CF) (σ : Sg) : EM Fl :=
 seqM (bnd (subS (lk σ 0) (ret (.int (0)))) fun d => ret (.next (put σ 3 d))) (b__law_true_6 cf)
noncomputable def s__law_true (cf : CF) (a0 a1 a2 : D) : EM D :=
 finM (b__law_true_7 cf [some a0, some a1, some a2, none, none, none, none])
noncomputable def b_law_0 (cf : CF) (σ : Sg) : EM Fl :=
 seqM (bnd (orV (bnd (consM (lk σ 3) (ret [])) fun ds => bf0 .all ds) (bnd (callN cf (Str.ofString "is_shown") (consM (lk σ 1) (ret []))) fun a => unop .Not a)) fun d => ret (.ret d)) (nxt)
noncomputable def b_law_1 (cf : CF) (σ : Sg) : EM Fl :=
 seqM (bnd (ret (.bool false)) fun d => ret (.ret d)) (nxt)
noncomputable def b_law_2 (cf : CF) (σ : Sg) : EM Fl :=
 seqM (ifM (cmpS .NotEq (callN cf (Str.ofString "is_shown") (consM (lk σ 4) (ret []))) (bnd (bfS bAny false (consM (lk σ 3) (ret []))) fun a => unop .Not a)) (b_law_1 cf σ) (nxt σ)) (b_law_0 cf)
noncomputable def b_law_3 (cf : CF) (σ : Sg) : EM Fl :=
 seqM (bnd (ret (.bool false)) fun d => ret (.ret d)) (nxt)
noncomputable def b_law_4 (cf : CF) (σ : Sg) : EM Fl :=
 seqM (ifM (cmpS .NotEq (lk σ 5) (subS (lst0 (consM (ret (.str (Str.ofString "worlds"))) (consM (ret (.str (Str.ofString "shown"))) (ret [])))) (bnd (consM (bnd (consM (lk σ 3) (ret [])) fun ds => bf0 .all ds) (ret [])) fun ds => bf0 .int ds))) (b_law_3 cf σ) (nxt σ)) (b_law_2 cf)
noncomputable def b_law_5 (cf : CF) (σ : Sg) : EM Fl :=
 seqM (bnd (subS (callN cf (Str.ofString "told") (consM (tupM (consM (ret (.str (Str.ofString "then"))) (consM (lk σ 4) (consM (tupM (consM (ret (.str (Str.ofString "false"))) (ret []))) (ret []))))) (ret []))) (ret (.int (0)))) fun d => ret (.next (put σ 5 d))) (b_law_4 cf)
noncomputable def b_law_6 (cf : CF) (σ : Sg) : EM Fl :=
 seqM (bnd (tupM (consM (ret (.str (Str.ofString "then"))) (consM (lk σ 1) (consM (tupM (consM (ret (.str (Str.ofString "false"))) (ret []))) (ret []))))) fun d => ret (.next (put σ 4 d))) (b_law_5 cf)
noncomputable def t_law_7 (cf : CF) (σ : Sg) (d : D) : EM (Option D) :=
 (fun σc => turnS (ret true) (callN cf (Str.ofString "_law_true") (consM (lk σc 4) (consM (lk σc 3) (consM (lk σc 1) (ret [])))))) (put [none, none, none, (σ[2]?).join, (σ[1]?).join] 1 d)
noncomputable def b_law_8 (cf : CF) (σ : Sg) : EM Fl :=
 seqM (bnd (comp0 (bnd (consM (subS (lst0 (consM (ret (.int (1))) (consM (ret (.int (2))) (consM (ret (.int (4))) (consM (ret (.int (8))) (consM (ret (.int (16))) (ret []))))))) (bnd (consM (lk σ 2) (ret [])) fun ds => bf0 .len ds)) (ret [])) fun ds => bf0 .range ds) (t_law_7 cf σ)) fun d => ret (.next (put σ 3 d))) (b_law_6 cf)
noncomputable def b_law_9 (cf : CF) (σ : Sg) : EM Fl :=
 seqM (bnd (bnd (consM (lk σ 1) (ret [])) fun ds => cf (Str.ofString "_law_names") ds) fun d => ret (.next (put σ 2 d))) (b_law_8 cf)
noncomputable def b_law_10 (cf : CF) (σ : Sg) : EM Fl :=
 seqM (bnd (bnd (consM (lk σ 0) (consM (ret (.int (2))) (consM (ret (.int (6))) (consM (ret (.int (4))) (ret []))))) fun ds => cf (Str.ofString "_law_drawn") ds) fun d => ret (.next (put σ 1 d))) (b_law_9 cf)
noncomputable def s_law (cf : CF) (a0 : D) : EM D :=
 finM (b_law_10 cf [some a0, none, none, none, none, none, none, none, none, none, none, none, none, none, none])
theorem e_law (cf : CF) (a0 : D) : runFn C11 cf (f_law) [a0] = s_law cf a0 := by kernel_rfl
noncomputable def b_Search___init___0 (cf : CF) (σ : Sg) : EM Fl :=
 seqM (bnd (mkTab true) fun d => bnd (lk σ 0) fun a => bnd (setAttrM C11 a (Str.ofString "made") d) fun _ => ret (.next σ)) (nxt)
noncomputable def b_Search___init___1 (cf : CF) (σ : Sg) : EM Fl :=
 seqM (bnd (lk σ 2) fun d => bnd (attS C11 (Str.ofString "places") (lk σ 0)) fun a => bnd (lk σ 3) fun k => bnd (setItemM a k d) fun _ => ret (.next σ)) (nxt)
noncomputable def b_Search___init___2 (cf : CF) (σ : Sg) : EM Fl :=
 seqM (forEM (attS C11 (Str.ofString "order") (lk σ 0)) (fun i d σ => b_Search___init___1 cf (put (put σ 2 (.int i)) 3 d)) σ) (b_Search___init___0 cf)
noncomputable def b_Search___init___3 (cf : CF) (σ : Sg) : EM Fl :=
 seqM (bnd (mkTab true) fun d => bnd (lk σ 0) fun a => bnd (setAttrM C11 a (Str.ofString "places") d) fun _ => ret (.next σ)) (b_Search___init___2 cf)
noncomputable def b_Search___init___4 (cf : CF) (σ : Sg) : EM Fl :=
 seqM stk (nxt)
noncomputable def b_Search___init___5 (cf : CF) (σ : Sg) : EM Fl :=
 seqM (ifM (cmpS .Gt (bnd (consM (attS C11 (Str.ofString "order") (lk σ 0)) (ret [])) fun ds => bf0 .len ds) (ret c_MOST_PARTS)) (b_Search___init___4 cf σ) (nxt σ)) (b_Search___init___3 cf)
noncomputable def b_Search___init___6 (cf : CF) (σ : Sg) : EM Fl :=
 seqM (bnd (callN cf (Str.ofString "parts") (consM (lk σ 1) (ret []))) fun d => bnd (lk σ 0) fun a => bnd (setAttrM C11 a (Str.ofString "order") d) fun _ => ret (.next σ)) (b_Search___init___5 cf)
noncomputable def s_Search___init__ (cf : CF) (a0 a1 : D) : EM D :=
 finM (b_Search___init___6 cf [some a0, some a1, none, none, none, none, none, none, none])
noncomputable def b_Search_kind_0 (cf : CF) (σ : Sg) : EM Fl :=
 seqM (bnd (subS (subS (attS C11 (Str.ofString "order") (lk σ 0)) (lk σ 1)) (ret (.int (0)))) fun d => ret (.ret d)) (nxt)
noncomputable def s_Search_kind (cf : CF) (a0 a1 : D) : EM D :=
 finM (b_Search_kind_0 cf [some a0, some a1])
noncomputable def b_Search_half_0 (cf : CF) (σ : Sg) : EM Fl :=
 seqM (bnd (subS (attS C11 (Str.ofString "places") (lk σ 0)) (subS (subS (attS C11 (Str.ofString "order") (lk σ 0)) (lk σ 1)) (lk σ 2))) fun d => ret (.ret d)) (nxt)
noncomputable def s_Search_half (cf : CF) (a0 a1 a2 : D) : EM D :=
 finM (b_Search_half_0 cf [some a0, some a1, some a2])
noncomputable def b_Search_theory_from_0 (cf : CF) (σ : Sg) : EM Fl :=
 seqM (bnd (subS (attS C11 (Str.ofString "made") (lk σ 0)) (lk σ 1)) fun d => ret (.ret d)) (nxt)
noncomputable def b_Search_theory_from_1 (cf : CF) (σ : Sg) : EM Fl :=
 seqM (bnd (oMeth C11 cf (Str.ofString "reckoned") (lk σ 0) (consM (lk σ 1) (ret []))) fun d => bnd (attS C11 (Str.ofString "made") (lk σ 0)) fun a => bnd (lk σ 1) fun k => bnd (setItemM a k d) fun _ => ret (.next σ)) (nxt)
noncomputable def b_Search_theory_from_2 (cf : CF) (σ : Sg) : EM Fl :=
 seqM (ifM (cmpS .NotIn (lk σ 1) (attS C11 (Str.ofString "made") (lk σ 0))) (b_Search_theory_from_1 cf σ) (nxt σ)) (b_Search_theory_from_0 cf)
noncomputable def s_Search_theory_from (cf : CF) (a0 a1 : D) : EM D :=
 finM (b_Search_theory_from_2 cf [some a0, some a1])
noncomputable def b_Search_reckoned_0 (cf : CF) (σ : Sg) : EM Fl :=
 seqM (bnd (lk σ 2) fun d => ret (.ret d)) (nxt)
noncomputable def w_Search_reckoned_1 (cf : CF) (σ : Sg) : EM Bool :=
 (bnd (lk σ 4) truthM)
noncomputable def b_Search_reckoned_2 (cf : CF) (σ : Sg) : EM Fl :=
 seqM (bnd (ret (.bool true)) fun d => ret (.next (put σ 4 d))) (nxt)
noncomputable def b_Search_reckoned_3 (cf : CF) (σ : Sg) : EM Fl :=
 seqM (bnd (lk σ 5) fun d => bnd (lk σ 2) fun a => bnd (lk σ 3) fun k => bnd (setItemM a k d) fun _ => ret (.next σ)) (b_Search_reckoned_2 cf)
noncomputable def b_Search_reckoned_4 (cf : CF) (σ : Sg) : EM Fl :=
 seqM (ifM (cmpS .IsNot (lk σ 5) (ret .none)) (b_Search_reckoned_3 cf σ) (nxt σ)) (nxt)
noncomputable def b_Search_reckoned_5 (cf : CF) (σ : Sg) : EM Fl :=
 seqM (bnd (oMeth C11 cf (Str.ofString "how") (lk σ 0) (consM (lk σ 1) (consM (lk σ 2) (consM (lk σ 3) (ret []))))) fun d => ret (.next (put σ 5 d))) (b_Search_reckoned_4 cf)
noncomputable def b_Search_reckoned_6 (cf : CF) (σ : Sg) : EM Fl :=
 seqM (ifM (cmpS .NotIn (lk σ 3) (lk σ 2)) (b_Search_reckoned_5 cf σ) (nxt σ)) (nxt)
noncomputable def b_Search_reckoned_7 (cf : CF) (σ : Sg) : EM Fl :=
 seqM (forM' (bnd (consM (bnd (consM (attS C11 (Str.ofString "order") (lk σ 0)) (ret [])) fun ds => bf0 .len ds) (ret [])) fun ds => bf0 .range ds) (fun d σ => b_Search_reckoned_6 cf (put σ 3 d)) σ) (nxt)
noncomputable def b_Search_reckoned_8 (cf : CF) (σ : Sg) : EM Fl :=
 seqM (bnd (ret (.bool false)) fun d => ret (.next (put σ 4 d))) (b_Search_reckoned_7 cf)
noncomputable def b_Search_reckoned_9 (cf : CF) (σ : Sg) : EM Fl :=
 seqM (whileL (w_Search_reckoned_1 cf) (b_Search_reckoned_8 cf) (2 ^ 30) σ) (b_Search_reckoned_0 cf)
noncomputable def b_Search_reckoned_10 (cf : CF) (σ : Sg) : EM Fl :=
 seqM (bnd (ret (.bool true)) fun d => ret (.next (put σ 4 d))) (b_Search_reckoned_9 cf)
noncomputable def b_Search_reckoned_11 (cf : CF) (σ : Sg) : EM Fl :=
 seqM (bnd (tupM (consM (ret (.str (Str.ofString "given"))) (consM (tupM (ret [])) (ret [])))) fun d => bnd (lk σ 2) fun a => bnd (lk σ 3) fun k => bnd (setItemM a k d) fun _ => ret (.next σ)) (nxt)
noncomputable def b_Search_reckoned_12 (cf : CF) (σ : Sg) : EM Fl :=
 seqM (forM' (lk σ 1) (fun d σ => b_Search_reckoned_11 cf (put σ 3 d)) σ) (b_Search_reckoned_10 cf)
noncomputable def b_Search_reckoned_13 (cf : CF) (σ : Sg) : EM Fl :=
 seqM (bnd (mkTab false) fun d => ret (.next (put σ 2 d))) (b_Search_reckoned_12 cf)
noncomputable def s_Search_reckoned (cf : CF) (a0 a1 : D) : EM D :=
 finM (b_Search_reckoned_13 cf [some a0, some a1, none, none, none, none, none, none])
noncomputable def b_Search_how_0 (cf : CF) (σ : Sg) : EM Fl :=
 seqM (bnd (lk σ 5) fun d => ret (.ret d)) (nxt)
noncomputable def b_Search_how_1 (cf : CF) (σ : Sg) : EM Fl :=
 seqM (bnd (oMeth C11 cf (Str.ofString "how_taken") (lk σ 0) (consM (lk σ 1) (consM (lk σ 2) (consM (lk σ 6) (consM (lk σ 3) (ret [])))))) fun d => ret (.next (put σ 5 d))) (nxt)
noncomputable def b_Search_how_2 (cf : CF) (σ : Sg) : EM Fl :=
 seqM (ifM (andM (cmpS .Is (lk σ 5) (ret .none)) (andM (cmpS .In (oMeth C11 cf (Str.ofString "kind") (lk σ 0) (consM (lk σ 6) (ret []))) (ret c_JOINING)) (ret true))) (b_Search_how_1 cf σ) (nxt σ)) (nxt)
noncomputable def b_Search_how_3 (cf : CF) (σ : Sg) : EM Fl :=
 seqM (forM' (bnd (consM (lk σ 2) (ret [])) fun ds => bf0 .list ds) (fun d σ => b_Search_how_2 cf (put σ 6 d)) σ) (b_Search_how_0 cf)
noncomputable def b_Search_how_4 (cf : CF) (σ : Sg) : EM Fl :=
 seqM (bnd (oMeth C11 cf (Str.ofString "how_made") (lk σ 0) (consM (lk σ 1) (consM (lk σ 2) (consM (lk σ 3) (ret []))))) fun d => ret (.next (put σ 5 d))) (nxt)
noncomputable def b_Search_how_5 (cf : CF) (σ : Sg) : EM Fl :=
 seqM (ifM (cmpS .In (oMeth C11 cf (Str.ofString "kind") (lk σ 0) (consM (lk σ 3) (ret []))) (ret c_JOINING)) (b_Search_how_4 cf σ) (nxt σ)) (b_Search_how_3 cf)
noncomputable def b_Search_how_6 (cf : CF) (σ : Sg) : EM Fl :=
 seqM (bnd (ret .none) fun d => ret (.next (put σ 5 d))) (b_Search_how_5 cf)
noncomputable def b_Search_how_7 (cf : CF) (σ : Sg) : EM Fl :=
 seqM (bnd (tupM (consM (ret (.str (Str.ofString "any"))) (consM (tupM (consM (tupM (consM (lk σ 1) (consM (lk σ 4) (ret [])))) (ret []))) (ret [])))) fun d => ret (.ret d)) (nxt)
noncomputable def b_Search_how_8 (cf : CF) (σ : Sg) : EM Fl :=
 seqM (ifM (cmpS .In (lk σ 4) (lk σ 2)) (b_Search_how_7 cf σ) (nxt σ)) (b_Search_how_6 cf)
noncomputable def b_Search_how_9 (cf : CF) (σ : Sg) : EM Fl :=
 seqM (bnd (methS mGet1 (attS C11 (Str.ofString "places") (lk σ 0)) (consM (tupM (consM (ret (.str (Str.ofString "false"))) (ret []))) (ret []))) fun d => ret (.next (put σ 4 d))) (b_Search_how_8 cf)
noncomputable def s_Search_how (cf : CF) (a0 a1 a2 a3 : D) : EM D :=
 finM (b_Search_how_9 cf [some a0, some a1, some a2, some a3, none, none, none, none, none])
noncomputable def b_Search_how_made_0 (cf : CF) (σ : Sg) : EM Fl :=
 seqM (bnd (ret .none) fun d => ret (.ret d)) (nxt)
noncomputable def b_Search_how_made_1 (cf : CF) (σ : Sg) : EM Fl :=
 seqM (bnd (tupM (consM (ret (.str (Str.ofString "suppose"))) (consM (tupM (consM (tupM (consM (lk σ 6) (consM (lk σ 5) (ret [])))) (ret []))) (ret [])))) fun d => ret (.ret d)) (nxt)
noncomputable def b_Search_how_made_2 (cf : CF) (σ : Sg) : EM Fl :=
 seqM (ifM (cmpS .In (lk σ 5) (oMeth C11 cf (Str.ofString "theory_from") (lk σ 0) (consM (lk σ 6) (ret [])))) (b_Search_how_made_1 cf σ) (nxt σ)) (nxt)
noncomputable def b_Search_how_made_3 (cf : CF) (σ : Sg) : EM Fl :=
 seqM (bnd (bnd (consM (lk σ 1) (consM (lk σ 4) (ret []))) fun ds => cf (Str.ofString "with_one") ds) fun d => ret (.next (put σ 6 d))) (b_Search_how_made_2 cf)
noncomputable def b_Search_how_made_4 (cf : CF) (σ : Sg) : EM Fl :=
 seqM (ifM (cmpS .NotIn (lk σ 4) (lk σ 2)) (b_Search_how_made_3 cf σ) (nxt σ)) (b_Search_how_made_0 cf)
noncomputable def b_Search_how_made_5 (cf : CF) (σ : Sg) : EM Fl :=
 seqM (bnd (tupM (consM (ret (.str (Str.ofString "suppose"))) (consM (tupM (consM (tupM (consM (lk σ 1) (consM (lk σ 5) (ret [])))) (ret []))) (ret [])))) fun d => ret (.ret d)) (nxt)
noncomputable def b_Search_how_made_6 (cf : CF) (σ : Sg) : EM Fl :=
 seqM (ifM (cmpS .In (lk σ 5) (lk σ 2)) (b_Search_how_made_5 cf σ) (nxt σ)) (b_Search_how_made_4 cf)
noncomputable def b_Search_how_made_7 (cf : CF) (σ : Sg) : EM Fl :=
 seqM (bnd (ret .none) fun d => ret (.ret d)) (nxt)
noncomputable def b_Search_how_made_8 (cf : CF) (σ : Sg) : EM Fl :=
 seqM (bnd (tupM (consM (ret (.str (Str.ofString "other"))) (consM (tupM (consM (tupM (consM (lk σ 1) (consM (lk σ 5) (ret [])))) (ret []))) (ret [])))) fun d => ret (.ret d)) (nxt)
noncomputable def b_Search_how_made_9 (cf : CF) (σ : Sg) : EM Fl :=
 seqM (ifM (cmpS .In (lk σ 5) (lk σ 2)) (b_Search_how_made_8 cf σ) (nxt σ)) (b_Search_how_made_7 cf)
noncomputable def b_Search_how_made_10 (cf : CF) (σ : Sg) : EM Fl :=
 seqM (bnd (tupM (consM (ret (.str (Str.ofString "one"))) (consM (tupM (consM (tupM (consM (lk σ 1) (consM (lk σ 4) (ret [])))) (ret []))) (ret [])))) fun d => ret (.ret d)) (nxt)
noncomputable def b_Search_how_made_11 (cf : CF) (σ : Sg) : EM Fl :=
 seqM (ifM (cmpS .In (lk σ 4) (lk σ 2)) (b_Search_how_made_10 cf σ) (nxt σ)) (b_Search_how_made_9 cf)
noncomputable def b_Search_how_made_12 (cf : CF) (σ : Sg) : EM Fl :=
 seqM (ifM (cmpS .Eq (oMeth C11 cf (Str.ofString "kind") (lk σ 0) (consM (lk σ 3) (ret []))) (ret (.str (Str.ofString "or")))) (b_Search_how_made_11 cf σ) (nxt σ)) (b_Search_how_made_6 cf)
noncomputable def b_Search_how_made_13 (cf : CF) (σ : Sg) : EM Fl :=
 seqM (bnd (ret .none) fun d => ret (.ret d)) (nxt)
noncomputable def b_Search_how_made_14 (cf : CF) (σ : Sg) : EM Fl :=
 seqM (bnd (tupM (consM (ret (.str (Str.ofString "both"))) (consM (tupM (consM (tupM (consM (lk σ 1) (consM (lk σ 4) (ret [])))) (consM (tupM (consM (lk σ 1) (consM (lk σ 5) (ret [])))) (ret [])))) (ret [])))) fun d => ret (.ret d)) (nxt)
noncomputable def b_Search_how_made_15 (cf : CF) (σ : Sg) : EM Fl :=
 seqM (ifM (andM (cmpS .In (lk σ 4) (lk σ 2)) (andM (cmpS .In (lk σ 5) (lk σ 2)) (ret true))) (b_Search_how_made_14 cf σ) (nxt σ)) (b_Search_how_made_13 cf)
noncomputable def b_Search_how_made_16 (cf : CF) (σ : Sg) : EM Fl :=
 seqM (ifM (cmpS .Eq (oMeth C11 cf (Str.ofString "kind") (lk σ 0) (consM (lk σ 3) (ret []))) (ret (.str (Str.ofString "and")))) (b_Search_how_made_15 cf σ) (nxt σ)) (b_Search_how_made_12 cf)
noncomputable def b_Search_how_made_17 (cf : CF) (σ : Sg) : EM Fl :=
 seqM (bnd (oMeth C11 cf (Str.ofString "half") (lk σ 0) (consM (lk σ 3) (consM (ret (.int (2))) (ret [])))) fun d => ret (.next (put σ 5 d))) (b_Search_how_made_16 cf)
noncomputable def b_Search_how_made_18 (cf : CF) (σ : Sg) : EM Fl :=
 seqM (bnd (oMeth C11 cf (Str.ofString "half") (lk σ 0) (consM (lk σ 3) (consM (ret (.int (1))) (ret [])))) fun d => ret (.next (put σ 4 d))) (b_Search_how_made_17 cf)
noncomputable def s_Search_how_made (cf : CF) (a0 a1 a2 a3 : D) : EM D :=
 finM (b_Search_how_made_18 cf [some a0, some a1, some a2, some a3, none, none, none, none])
noncomputable def b_Search_how_taken_0 (cf : CF) (σ : Sg) : EM Fl :=
 seqM (bnd (ret .none) fun d => ret (.ret d)) (nxt)
noncomputable def b_Search_how_taken_1 (cf : CF) (σ : Sg) : EM Fl :=
 seqM (bnd (tupM (consM (ret (.str (Str.ofString "cases"))) (consM (tupM (consM (tupM (consM (lk σ 1) (consM (lk σ 3) (ret [])))) (consM (tupM (consM (lk σ 7) (consM (lk σ 4) (ret [])))) (consM (tupM (consM (lk σ 8) (consM (lk σ 4) (ret [])))) (ret []))))) (ret [])))) fun d => ret (.ret d)) (nxt)
noncomputable def b_Search_how_taken_2 (cf : CF) (σ : Sg) : EM Fl :=
 seqM (ifM (andM (cmpS .In (lk σ 4) (oMeth C11 cf (Str.ofString "theory_from") (lk σ 0) (consM (lk σ 7) (ret [])))) (andM (cmpS .In (lk σ 4) (oMeth C11 cf (Str.ofString "theory_from") (lk σ 0) (consM (lk σ 8) (ret [])))) (ret true))) (b_Search_how_taken_1 cf σ) (nxt σ)) (b_Search_how_taken_0 cf)
noncomputable def b_Search_how_taken_3 (cf : CF) (σ : Sg) : EM Fl :=
 seqM (bnd (bnd (consM (lk σ 1) (consM (lk σ 6) (ret []))) fun ds => cf (Str.ofString "with_one") ds) fun d => ret (.next (put σ 8 d))) (b_Search_how_taken_2 cf)
noncomputable def b_Search_how_taken_4 (cf : CF) (σ : Sg) : EM Fl :=
 seqM (bnd (bnd (consM (lk σ 1) (consM (lk σ 5) (ret []))) fun ds => cf (Str.ofString "with_one") ds) fun d => ret (.next (put σ 7 d))) (b_Search_how_taken_3 cf)
noncomputable def b_Search_how_taken_5 (cf : CF) (σ : Sg) : EM Fl :=
 seqM (bnd (ret .none) fun d => ret (.ret d)) (nxt)
noncomputable def b_Search_how_taken_6 (cf : CF) (σ : Sg) : EM Fl :=
 seqM (ifM (orM (cmpS .In (lk σ 5) (lk σ 2)) (orM (cmpS .In (lk σ 6) (lk σ 2)) (ret false))) (b_Search_how_taken_5 cf σ) (nxt σ)) (b_Search_how_taken_4 cf)
noncomputable def b_Search_how_taken_7 (cf : CF) (σ : Sg) : EM Fl :=
 seqM (bnd (ret .none) fun d => ret (.ret d)) (nxt)
noncomputable def b_Search_how_taken_8 (cf : CF) (σ : Sg) : EM Fl :=
 seqM (bnd (tupM (consM (ret (.str (Str.ofString "onward"))) (consM (tupM (consM (tupM (consM (lk σ 1) (consM (lk σ 3) (ret [])))) (consM (tupM (consM (lk σ 1) (consM (lk σ 5) (ret [])))) (ret [])))) (ret [])))) fun d => ret (.ret d)) (nxt)
noncomputable def b_Search_how_taken_9 (cf : CF) (σ : Sg) : EM Fl :=
 seqM (ifM (andM (cmpS .Eq (lk σ 6) (lk σ 4)) (andM (cmpS .In (lk σ 5) (lk σ 2)) (ret true))) (b_Search_how_taken_8 cf σ) (nxt σ)) (b_Search_how_taken_7 cf)
noncomputable def b_Search_how_taken_10 (cf : CF) (σ : Sg) : EM Fl :=
 seqM (ifM (cmpS .Eq (oMeth C11 cf (Str.ofString "kind") (lk σ 0) (consM (lk σ 3) (ret []))) (ret (.str (Str.ofString "then")))) (b_Search_how_taken_9 cf σ) (nxt σ)) (b_Search_how_taken_6 cf)
noncomputable def b_Search_how_taken_11 (cf : CF) (σ : Sg) : EM Fl :=
 seqM (bnd (ret .none) fun d => ret (.ret d)) (nxt)
noncomputable def b_Search_how_taken_12 (cf : CF) (σ : Sg) : EM Fl :=
 seqM (bnd (tupM (consM (ret (.str (Str.ofString "right"))) (consM (tupM (consM (tupM (consM (lk σ 1) (consM (lk σ 3) (ret [])))) (ret []))) (ret [])))) fun d => ret (.ret d)) (nxt)
noncomputable def b_Search_how_taken_13 (cf : CF) (σ : Sg) : EM Fl :=
 seqM (ifM (cmpS .Eq (lk σ 6) (lk σ 4)) (b_Search_how_taken_12 cf σ) (nxt σ)) (b_Search_how_taken_11 cf)
noncomputable def b_Search_how_taken_14 (cf : CF) (σ : Sg) : EM Fl :=
 seqM (bnd (tupM (consM (ret (.str (Str.ofString "left"))) (consM (tupM (consM (tupM (consM (lk σ 1) (consM (lk σ 3) (ret [])))) (ret []))) (ret [])))) fun d => ret (.ret d)) (nxt)
noncomputable def b_Search_how_taken_15 (cf : CF) (σ : Sg) : EM Fl :=
 seqM (ifM (cmpS .Eq (lk σ 5) (lk σ 4)) (b_Search_how_taken_14 cf σ) (nxt σ)) (b_Search_how_taken_13 cf)
noncomputable def b_Search_how_taken_16 (cf : CF) (σ : Sg) : EM Fl :=
 seqM (ifM (cmpS .Eq (oMeth C11 cf (Str.ofString "kind") (lk σ 0) (consM (lk σ 3) (ret []))) (ret (.str (Str.ofString "and")))) (b_Search_how_taken_15 cf σ) (nxt σ)) (b_Search_how_taken_10 cf)
noncomputable def b_Search_how_taken_17 (cf : CF) (σ : Sg) : EM Fl :=
 seqM (bnd (oMeth C11 cf (Str.ofString "half") (lk σ 0) (consM (lk σ 3) (consM (ret (.int (2))) (ret [])))) fun d => ret (.next (put σ 6 d))) (b_Search_how_taken_16 cf)
noncomputable def b_Search_how_taken_18 (cf : CF) (σ : Sg) : EM Fl :=
 seqM (bnd (oMeth C11 cf (Str.ofString "half") (lk σ 0) (consM (lk σ 3) (consM (ret (.int (1))) (ret [])))) fun d => ret (.next (put σ 5 d))) (b_Search_how_taken_17 cf)
noncomputable def s_Search_how_taken (cf : CF) (a0 a1 a2 a3 a4 : D) : EM D :=
 finM (b_Search_how_taken_18 cf [some a0, some a1, some a2, some a3, some a4, none, none, none, none, none])
end
end L11
end Mine
end

section
namespace Mine
open PySem
theorem eq_nil {ds : List D} (h : ∀ d ∈ ds, Pl d) : eqM (.list ds) (.list []) = ret ds.isEmpty := by
  refine ob11 (pys_of h) fun ps e => ?_
  funext S
  show (match (D.pys ds).map PyData.list, some (PyData.list []) with
      | some p, some q => if lineOf p q then Out.ok (PyData.eqv p q) S else .stuck
      | _, _ => .stuck) = _
  rw [e]
  show (if lineOf (.list ps) (.list []) then Out.ok (PyData.eqv (.list ps) (.list [])) S else .stuck) = _
  have : lineOf (.list ps) (.list []) = true := by
    unfold lineOf; exact decide_eq_true (Nat.le_trans (Nat.min_le_right _ _) (by decide))
  rw [if_pos this]
  cases ds with
  | nil => cases e; rfl
  | cons d ds =>
    refine ob22 (pys_cons e) fun p qs er1 _ => ?_; subst er1
    rfl
theorem lt_ints (i j : Int) : cmpM .Lt (.int i) (.int j) = ret (decide (i < j)) := rfl
theorem eq_ints (i j : Int) : cmpM .Eq (.int i) (.int j) = ret (i == j) := rfl
noncomputable abbrev abc : Str := Str.ofString "abcdefghijklmnopqrstuvwxyz"
noncomputable def LC (c : Nat) : Prop := c ∈ abc.cps.toList
theorem add_ints (i j : Int) : bin0 .Add (.int i) (.int j) = ret (.int (i + j)) := rfl
theorem mod_ints (i j : Int) (h : j ≠ 0) : bin0 .Mod (.int i) (.int j) = ret (.int (i.fmod j)) := by
  show (if j = 0 then stk else _) = _
  rw [if_neg h]
theorem div_ints (i j : Int) (h : j ≠ 0) : bin0 .FloorDiv (.int i) (.int j) = ret (.int (i.fdiv j)) := by
  show (if j = 0 then stk else _) = _
  rw [if_neg h]
theorem mul_ints (i j : Int) (h1 : i.natAbs < 2 ^ 62) (h2 : j.natAbs < 2 ^ 62) : bin0 .Mult (.int i) (.int j) = ret (.int (i * j)) := by
  have : (small i && small j) = true := by unfold small; rw [Bool.and_eq_true]; exact ⟨decide_eq_true h1, decide_eq_true h2⟩
  show (if (small i && small j) = true then _ else stk) = _
  rw [if_pos this]
theorem add_strs (x y : Str) (h : x.length + y.length <= 100) : bin0 .Add (.str x) (.str y) = ret (.str (x ++ y)) := by
  show (if x.length + y.length <= sizeLine then _ else stk) = _
  rw [if_pos (Nat.le_trans h (by decide))]
theorem fmod_nat (i : Int) {n : Nat} (h : 0 < n) : ∃ k : Nat, k < n /\ i.fmod n = k := by
  have h1 := Int.fmod_nonneg_of_pos i (b := (n : Int)) (by omega)
  have h2 := Int.fmod_lt_of_pos i (b := (n : Int)) (by omega)
  exact mk12 ((i.fmod n).toNat) (by omega) (by omega)
theorem fmod_lit (i : Int) (n : Nat) (j : Int) (h : 0 < n) (e : j = (n : Int)) : ∃ k : Nat, k < n /\ i.fmod j = k := by
  subst e; exact fmod_nat i h
theorem itemS_at {x : Str} {k : Nat} {c : Nat} (h : x.cps.toList[k]? = some c) : itemM (.str x) (.int k) = ret (.str ⟨#[c]⟩) := by
  have hk : k < x.length := by
    have := (List.getElem?_eq_some_iff.mp h).1
    show k < x.cps.size
    simpa using this
  funext S
  show optM (((seqIndex? (k : Int) x.length).bind (x.cps[·]?)).map fun c => D.str ⟨#[c]⟩) S = _
  rw [seqIndex_nat hk]
  show optM ((x.cps[k]?).map fun c => D.str ⟨#[c]⟩) S = _
  rw [<- Array.getElem?_toList, h]; rfl
theorem letter_at (i : Int) : ∃ c, LC c /\ itemM (.str abc) (.int (i.fmod 26)) = ret (.str ⟨#[c]⟩) := by
  refine ob12 (fmod_lit i 26 26 (by decide) rfl) fun k hk e => ?_
  have hl : k < abc.cps.toList.length := by
    have : abc.cps.toList.length = 26 := by decide +kernel
    omega
  rw [e]
  exact mk12 (abc.cps.toList[k]) (List.getElem_mem hl) (itemS_at (List.getElem?_eq_getElem hl))
theorem index_all : (abc.cps.toList.all fun c => (strIndex abc ⟨#[c]⟩).isSome) = true := by decide +kernel
theorem index_of {c : Nat} (h : LC c) : ∃ k : Nat, strIndex abc ⟨#[c]⟩ = some k := by
  have := List.all_eq_true.mp index_all c h
  exact Option.isSome_iff_exists.mp this
noncomputable def chr1 (c : Nat) : Str := ⟨#[c]⟩
theorem join_chars : ∀ cs : List Nat, Str.join (Str.ofString "") (cs.map chr1) = ⟨cs.toArray⟩
  | [] => rfl
  | [c] => rfl
  | c :: d :: r => by
    have ih := join_chars (d :: r)
    show chr1 c ++ Str.ofString "" ++ Str.join (Str.ofString "") ((d :: r).map chr1) = _
    rw [ih]
    show (⟨#[c] ++ (Str.ofString "").cps ++ (d :: r).toArray⟩ : Str) = _
    congr 1
    have : (Str.ofString "").cps = #[] := rfl
    rw [this]
    simp
theorem strsOf_chars : ∀ cs : List Nat, strsOf (cs.map fun c => D.str (chr1 c)) = some (cs.map chr1)
  | [] => rfl
  | c :: cs => by
    rw [List.map_cons, List.map_cons]
    show (match strsOf (cs.map fun c => D.str (chr1 c)) with
      | some bs => some (chr1 c :: bs)
      | none => none) = _
    rw [strsOf_chars cs]
theorem chars_of {Q : Nat -> Prop} : ∀ {ys : List D}, (∀ y ∈ ys, ∃ c, Q c /\ y = .str (chr1 c)) -> ∃ cs : List Nat, ys = cs.map (fun c => D.str (chr1 c)) /\ ∀ c ∈ cs, Q c
  | [], _ => mk12 [] rfl (by simp)
  | y :: ys, h => by
    refine ob12 (h y (List.mem_cons_self ..)) fun c hc er1 => ?_; subst er1
    refine ob12 (chars_of fun z hz => h z (List.mem_cons_of_mem _ hz)) fun cs er1 hcs => ?_; subst er1
    refine mk12 (c :: cs) rfl (fun d hd => ?_)
    rcases List.mem_cons.mp hd with e | e
    · rw [e]; exact hc
    · exact hcs d e
theorem joinOk_chars (cs : List Nat) (h : cs.length <= 100) : JoinOk (Str.ofString "") (cs.map chr1) = true := by
  unfold JoinOk
  have : ∀ (l : List Nat) (n : Nat), (l.map chr1).foldl (fun a (x : Str) => a + x.length + (Str.ofString "").length) n = n + l.length := by
    intro l
    induction l with
    | nil => intro n; rfl
    | cons c l ih =>
      intro n
      rw [List.map_cons, List.foldl_cons, ih]
      show n + 1 + 0 + l.length = n + (l.length + 1)
      omega
  have e : ((cs.map chr1).toArray.foldl (· + ·.length + (Str.ofString "").length) 0) = cs.length := by
    rw [List.foldl_toArray]
    rw [this cs 0]; omega
  rw [e]
  unfold Builtin.Str.tooLong
  have : sizeLine = 16777216 := by decide
  simp
  first | omega | (have := h; decide)
theorem meth_join (cs : List Nat) (h : cs.length <= 100) : methS mJoin (ret (.str (Str.ofString ""))) (ret [.list (cs.map fun c => D.str (chr1 c))]) = ret (.str ⟨cs.toArray⟩) := by
  have e : joinM (Str.ofString "") (cs.map fun c => D.str (chr1 c)) = ret (.str ⟨cs.toArray⟩) := by
    unfold joinM
    rw [strsOf_chars]
    show (if JoinOk (Str.ofString "") (cs.map chr1) = true then ret (D.str (Txt.join (Str.ofString "") (cs.map chr1))) else stk) = _
    rw [if_pos (joinOk_chars cs h)]
    show ret (D.str (Builtin.Str.glued (Str.ofString "") (cs.map chr1))) = _
    rw [StrLaws.glued_eq_join, join_chars]
  funext S
  show joinM (Str.ofString "") (cs.map fun c => D.str (chr1 c)) S = _
  rw [e]
theorem neg_int (i : Int) : unop .USub (.int i) = ret (.int (-i)) := rfl
theorem range_len (n : Nat) : (rangeL 0 (n : Int)).length = n := by simp [rangeL]
theorem range_mem {n : Nat} {d : D} (h : d ∈ rangeL 0 (n : Int)) : ∃ j : Nat, j < n /\ d = .int j := by
  unfold rangeL at h
  refine ob12 (List.mem_map.mp h) fun j hj e => ?_
  refine mk12 j (by simpa using List.mem_range.mp hj) ?_
  rw [<- e]; simp
theorem items_range {n : Nat} (h : n <= 1000) : itemsOf (.range 0 (n : Int)) = some (rangeL 0 (n : Int)) := by
  show (if (decide (-1000000000 <= (0 : Int)) && decide ((0 : Int) <= 1000000000) && decide (-1000000000 <= (n : Int)) && decide ((n : Int) - 0 <= 16777216)) = true then some (rangeL 0 (n : Int)) else none) = _
  rw [if_pos]
  simp only [Bool.and_eq_true, decide_eq_true_eq]
  omega
theorem range1 (n : Int) : bf0 .range [.int n] = ret (.range 0 n) := rfl
theorem len_lst (ds : List D) : bf0 .len [.list ds] = ret (.int ds.length) := rfl
theorem gt_ints (i j : Int) : cmpM .Gt (.int i) (.int j) = ret (decide (j < i)) := rfl
theorem add_lsts (x y : List D) (h : x.length + y.length <= 1000) : bin0 .Add (.list x) (.list y) = ret (.list (x ++ y)) := by
  funext S
  show (if x.length + y.length <= sizeLine then mkList cfg0 pos0 (x ++ y) S else .stuck) = _
  rw [if_pos (Nat.le_trans h (by decide))]; rfl
theorem sl_lst (ds : List D) (k : Int) : sli0 (.list ds) .none (.int k) = ret (.list (cut none (some k) ds)) := rfl
theorem lst1 (d : D) : lst0 (ret [d]) = ret (.list [d]) := lst0_ret _ (by simp)
theorem fls_t : tupM (ret [D.str (Str.ofString "false")]) = ret (.tuple [.str (Str.ofString "false")]) := tupM_ret _ (by simp)
theorem forL_count {body : D -> Sg -> EM Fl} (I : Nat -> Sg -> Prop) : ∀ (ds : List D) (n : Nat), (∀ d ∈ ds, ∀ m σ, n <= m -> m < n + ds.length -> I m σ -> ∃ σ', I (m + 1) σ' /\ body d σ = ret (.next σ')) -> ∀ σ, I n σ -> ∃ σ', I (n + ds.length) σ' /\ forL body ds σ = ret (.next σ')
  | [], n, _, σ, hσ => mk12 σ hσ rfl
  | d :: ds, n, h, σ, hσ => by
    have q : forL body (d :: ds) σ = bnd (calm (body d σ)) fun f => match f with
      | .next σ' => forL body ds σ'
      | .ret v => ret (.ret v) := rfl
    rw [q]
    refine ob12 (h d (List.mem_cons_self ..) n σ (Nat.le_refl _) (by simp) hσ) fun σ' h2 h3 => ?_
    rw [h3, calm_ret, bnd_ret]
    refine ob12 (forL_count I ds (n + 1) (fun x hx m τ h1 h2 => h x (List.mem_cons_of_mem _ hx) m τ (by omega) (by simp at h2 ⊢; omega)) σ' h2) fun σ'' h4 h5 => ?_
    exact ⟨σ'', by rw [List.length_cons]; have : n + (ds.length + 1) = n + 1 + ds.length := by omega
                   rw [this]; exact h4, h5⟩
theorem loop_count {body : D -> Sg -> EM Fl} {P : D -> Prop} (I : Nat -> Sg -> Prop) {ds : List D} {σ : Sg} {k : Sg -> EM Fl} (h : ∀ d ∈ ds, ∀ m σ, m < ds.length -> I m σ -> ∃ σ', I (m + 1) σ' /\ body d σ = ret (.next σ')) (h0 : I 0 σ)
    (hk : ∀ σ', I ds.length σ' -> ∃ d, finM (k σ') = ret d /\ P d) : ∃ d, finM (seqM (forL body ds σ) k) = ret d /\ P d := by
  refine ob12 (forL_count I ds 0 (fun d hd m τ _ h2 => h d hd m τ (by omega)) σ h0) fun σ' h1 h2 => ?_
  rw [h2]
  exact hk σ' (by simpa using h1)
theorem whileL_down {test : Sg -> EM Bool} {body : Sg -> EM Fl} (I : Nat -> Sg -> Prop) (J : Sg -> Prop) (h : ∀ n σ, I n σ -> (test σ = ret false /\ J σ) \/ (test σ = ret true /\ ∃ m σ', m < n /\ I m σ' /\ body σ = ret (.next σ'))) :
    ∀ N n σ, I n σ -> n < N -> ∃ σ', J σ' /\ whileL test body N σ = ret (.next σ') := by
  intro N
  induction N with
  | zero => intro n σ _ hn; omega
  | succ N ih =>
    intro n σ hI hn
    have q : whileL test body (N + 1) σ = bnd (test σ) fun b => if b then bnd (calm (body σ)) fun f => (match f with
      | .next σ' => whileL test body N σ'
      | .ret v => ret (.ret v)) else ret (.next σ) := rfl
    rw [q]
    rcases h n σ hI with ⟨h1, h2⟩ | ⟨h1, m, σ', hm, h2, h3⟩
    · exact mk12 σ h2 (by rw [h1]; rfl)
    · refine ob12 (ih m σ' h2 (by omega)) fun σ'' h4 h5 => ?_
      refine mk12 σ'' h4 ?_
      rw [h1, bnd_ret, if_pos rfl, h3, calm_ret, bnd_ret]; exact h5
theorem loop_while {test : Sg -> EM Bool} {body : Sg -> EM Fl} {P : D -> Prop} {N : Nat} {σ : Sg} {k : Sg -> EM Fl} (I : Nat -> Sg -> Prop) (J : Sg -> Prop) (n : Nat) (h : ∀ n σ, I n σ -> (test σ = ret false /\ J σ) \/ (test σ = ret true /\ ∃ m σ', m < n /\ I m σ' /\ body σ = ret (.next σ')))
    (h0 : I n σ) (hn : n < N) (hk : ∀ σ', J σ' -> ∃ d, finM (k σ') = ret d /\ P d) : ∃ d, finM (seqM (whileL test body N σ) k) = ret d /\ P d := by
  refine ob12 (whileL_down I J h N n σ h0 hn) fun σ' h1 h2 => ?_
  rw [h2]
  exact hk σ' h1
theorem eq_nil' {ds : List D} (h : ∀ d ∈ ds, Pl d) : cmpM .Eq (.list ds) (.list []) = ret ds.isEmpty := eq_nil h
theorem app_len (x y : Str) : (x ++ y).length = x.length + y.length := by
  show (x.cps ++ y.cps).size = _
  simp; rfl
theorem tup2 (a b : D) : tupM (ret [a, b]) = ret (.tuple [a, b]) := tupM_ret _ (by simp)
theorem tup3 (a b c : D) : tupM (ret [a, b, c]) = ret (.tuple [a, b, c]) := tupM_ret _ (by simp)
theorem ls0 : lst0 (ret []) = ret (.list []) := lst0_ret _ (by simp)
theorem ls4 (a b c d : D) : lst0 (ret [a, b, c, d]) = ret (.list [a, b, c, d]) := lst0_ret _ (by simp)
theorem ls5 (a b c d e : D) : lst0 (ret [a, b, c, d, e]) = ret (.list [a, b, c, d, e]) := lst0_ret _ (by simp)
theorem clip_nat {k d n : Nat} (h : k <= n) : clip (some (k : Int)) d n = k := by
  show (max 0 (min (if (k : Int) < 0 then (k : Int) + n else k) n)).toNat = k
  rw [if_neg (Int.not_lt.mpr (Int.natCast_nonneg k)), Int.min_eq_left (Int.ofNat_le.mpr h), Int.max_eq_right (Int.natCast_nonneg k), Int.toNat_natCast]
theorem cut_to {α : Type} {k : Nat} {l : List α} (h : k <= l.length) : cut none (some (k : Int)) l = l.take k := by
  unfold cut
  rw [clip_nat h]; rfl
theorem cut_from {α : Type} {k : Nat} {l : List α} (h : k <= l.length) : cut (some (k : Int)) none l = l.drop k := by
  unfold cut
  rw [clip_nat h]
  exact List.take_of_length_le (by rw [List.length_drop]; exact Nat.le_refl _)
end Mine
end

section
namespace Mine
open PySem
section
variable {α β : Type} {S S1 : Store}
theorem bnd_st {m : EM α} {f : α -> EM β} {a : α} (h : m S = .ok a S1) : bnd m f S = f a S1 := by unfold bnd; rw [h]
theorem seq_st {m : EM Fl} {k : Sg -> EM Fl} {σ : Sg} (h : m S = .ok (.next σ) S1) : seqM m k S = k σ S1 := by unfold seqM; rw [bnd_st h]
theorem fin_st {m : EM Fl} {d : D} (h : m S = .ok (.ret d) S1) : finM m S = .ok d S1 := by unfold finM; rw [bnd_st h]; rfl
theorem go_st {m : EM Fl} {k : Sg -> EM Fl} {σ : Sg} (h : m S = .ok (.next σ) S1) : finM (seqM m k) S = finM (k σ) S1 := by
  have e := seq_st (k := k) h
  generalize seqM m k = a at e
  unfold finM bnd
  rw [e]
theorem calm_st {m : EM α} {a : α} (h : m S = .ok a S1) : calm m S = .ok a S1 := by unfold calm; rw [h]
theorem ifM_st {m : EM Bool} {b : Bool} {x y : EM Fl} (h : m S = .ok b S1) : ifM m x y S = (if b then x else y) S1 := by unfold ifM; rw [bnd_st h]
theorem tabOf_list {n : Nat} {ds : List D} (h : S[n]? = some (.list ds)) : tabOf S (.loc n) = none := by
  unfold tabOf
  dsimp only
  rw [h]
theorem item_loc {n k : Nat} {ds : List D} {d : D} (h : S[n]? = some (.list ds)) (hk : ds[k]? = some d) : itemM (.loc n) (.int k) S = .ok d S := by
  have e : listOf S (.loc n) = some ds := by unfold listOf; dsimp only; rw [h]
  unfold itemM
  rw [tabOf_list h]
  show (match listOf S (.loc n) with
    | some ds => itemL ds k S
    | none => .stuck) = _
  rw [e]
  have := congrFun (itemL_at hk) S
  exact this
theorem len_loc {n : Nat} {ds : List D} (h : S[n]? = some (.list ds)) : bf0 .len [.loc n] S = .ok (.int ds.length) S := by
  have e : listOf S (.loc n) = some ds := by unfold listOf; dsimp only; rw [h]
  show (match listOf S (.loc n) with
    | some ds => Out.ok (D.int ds.length) S
    | none => .stuck) = _
  rw [e]
theorem tuple_loc {n : Nat} {ds : List D} (h : S[n]? = some (.list ds)) : bf0 .tuple [.loc n] S = .ok (.tuple ds) S := by
  have e : listOf S (.loc n) = some ds := by unfold listOf; dsimp only; rw [h]
  show (match listOf S (.loc n) with
    | some ds => ret (D.tuple ds) S
    | none => .stuck) = _
  rw [e]; rfl
end
end Mine
end

section
namespace Mine
open PySem
inductive W3 where
  | a | o | t
  deriving DecidableEq
inductive Sx where
  | nm (x : Str)
  | fls
  | bin (w : W3) (p q : Sx)
  deriving DecidableEq
end Mine
end

section
namespace Mine
open PySem
noncomputable def W3.s : W3 -> Str
  | .a => Str.ofString "and"
  | .o => Str.ofString "or"
  | .t => Str.ofString "then"
noncomputable def enc : Sx -> D
  | .nm x => .tuple [.str (Str.ofString "name"), .str x]
  | .fls => .tuple [.str (Str.ofString "false")]
  | .bin w p q => .tuple [.str w.s, enc p, enc q]
noncomputable def encP : Sx -> PyData
  | .nm x => .tuple [.str (Str.ofString "name"), .str x]
  | .fls => .tuple [.str (Str.ofString "false")]
  | .bin w p q => .tuple [.str w.s, encP p, encP q]
noncomputable def Sx.dep : Sx -> Nat
  | .bin _ p q => max p.dep q.dep + 1
  | _ => 1
theorem enc_py : ∀ a : Sx, (enc a).py = some (encP a)
  | .nm _ => rfl
  | .fls => rfl
  | .bin w p q => by
    show (D.pys [.str w.s, enc p, enc q]).map PyData.tuple = _
    simp only [D.pys, enc_py p, enc_py q]
    rfl
theorem eqv_two (a b c d : PyData) : PyData.eqv (.tuple [a, b]) (.tuple [c, d]) = (PyData.eqv a c && (PyData.eqv b d && true)) := rfl
theorem eqv_three (a b e c d f : PyData) : PyData.eqv (.tuple [a, b, e]) (.tuple [c, d, f]) = (PyData.eqv a c && (PyData.eqv b d && (PyData.eqv e f && true))) := rfl
theorem eqv_str (x y : Str) : PyData.eqv (.str x) (.str y) = decide (x = y) := rfl
theorem w3_inj : ∀ a b : W3, (a.s = b.s) = (a = b) := by
  intro a b
  refine propext ⟨fun h => ?_, fun h => h ▸ rfl⟩
  cases a <;> cases b <;> first | rfl | exact absurd h (by decide +kernel)
theorem eqv_enc : ∀ a b : Sx, PyData.eqv (encP a) (encP b) = decide (a = b)
  | .nm x, .nm y => by
    show PyData.eqv (.tuple [.str (Str.ofString "name"), .str x]) (.tuple [.str (Str.ofString "name"), .str y]) = _
    rw [eqv_two, eqv_str, eqv_str]
    simp
  | .nm x, .fls => by
    have e : PyData.eqv (encP (.nm x)) (encP .fls) = false := rfl
    rw [e]; simp
  | .nm x, .bin w p q => by
    show (PyData.eqv (.str _) (.str _) && (PyData.eqv (.str x) (encP p) && false)) = _
    simp
  | .fls, .nm x => by
    have e : PyData.eqv (encP .fls) (encP (.nm x)) = false := rfl
    rw [e]; simp
  | .fls, .fls => by decide +kernel
  | .fls, .bin w p q => by
    show (PyData.eqv (.str _) (.str _) && false) = _
    simp
  | .bin w p q, .nm x => by
    show (PyData.eqv (.str _) (.str _) && (PyData.eqv (encP p) (.str x) && false)) = _
    simp
  | .bin w p q, .fls => by
    show (PyData.eqv (.str _) (.str _) && false) = _
    simp
  | .bin w p q, .bin v r t => by
    show PyData.eqv (.tuple [.str w.s, encP p, encP q]) (.tuple [.str v.s, encP r, encP t]) = _
    rw [eqv_three, eqv_str, eqv_enc p r, eqv_enc q t]
    simp only [w3_inj, Sx.bin.injEq, Bool.and_true, Bool.decide_and]
end Mine
end

section
namespace Mine
open PySem
inductive Der (U : List Sx) : List Sx -> Sx -> Prop
  | ax {G p} : p ∈ G -> Der U G p
  | any {G p} : Der U G .fls -> p ∈ U -> Der U G p
  | both {G p q} : Der U G p -> Der U G q -> .bin .a p q ∈ U -> Der U G (.bin .a p q)
  | left {G p q} : Der U G (.bin .a p q) -> Der U G p
  | right {G p q} : Der U G (.bin .a p q) -> Der U G q
  | one {G p q} : Der U G p -> .bin .o p q ∈ U -> Der U G (.bin .o p q)
  | other {G p q} : Der U G q -> .bin .o p q ∈ U -> Der U G (.bin .o p q)
  | cases {G p q r} : Der U G (.bin .o p q) -> Der U (p :: G) r -> Der U (q :: G) r -> Der U G r
  | suppose {G p q} : Der U (p :: G) q -> .bin .t p q ∈ U -> Der U G (.bin .t p q)
  | onward {G p q} : Der U G (.bin .t p q) -> Der U G p -> Der U G q
theorem sub_cons {G H : List Sx} (h : ∀ x ∈ G, x ∈ H) (p : Sx) : ∀ x ∈ p :: G, x ∈ p :: H := fun x hx => by
  rcases List.mem_cons.mp hx with q | q
  · rw [q]; exact List.mem_cons_self ..
  · exact List.mem_cons_of_mem _ (h x q)
theorem Der.weak {U G : List Sx} {p : Sx} (d : Der U G p) : ∀ {H : List Sx}, (∀ x ∈ G, x ∈ H) -> Der U H p := by
  induction d with
  | ax h => exact fun s => .ax (s _ h)
  | any _ u ih => exact fun s => .any (ih s) u
  | both _ _ u i j => exact fun s => .both (i s) (j s) u
  | left _ i => exact fun s => .left (i s)
  | right _ i => exact fun s => .right (i s)
  | one _ u i => exact fun s => .one (i s) u
  | other _ u i => exact fun s => .other (i s) u
  | cases _ _ _ i j k => exact fun s => .cases (i s) (j (sub_cons s _)) (k (sub_cons s _))
  | suppose _ u i => exact fun s => .suppose (i (sub_cons s _)) u
  | onward _ _ i j => exact fun s => .onward (i s) (j s)
theorem Der.subst {U G : List Sx} {p : Sx} (d : Der U G p) : ∀ {H : List Sx}, (∀ x ∈ G, Der U H x) -> Der U H p := by
  have up : ∀ {G H : List Sx} (q : Sx), (∀ x ∈ G, Der U H x) -> ∀ x ∈ q :: G, Der U (q :: H) x := fun q s x hx => by
    rcases List.mem_cons.mp hx with e | e
    · rw [e]; exact .ax (List.mem_cons_self ..)
    · exact (s x e).weak fun y hy => List.mem_cons_of_mem _ hy
  induction d with
  | ax h => exact fun s => s _ h
  | any _ u ih => exact fun s => .any (ih s) u
  | both _ _ u i j => exact fun s => .both (i s) (j s) u
  | left _ i => exact fun s => .left (i s)
  | right _ i => exact fun s => .right (i s)
  | one _ u i => exact fun s => .one (i s) u
  | other _ u i => exact fun s => .other (i s) u
  | cases _ _ _ i j k => exact fun s => .cases (i s) (j (up _ s)) (k (up _ s))
  | suppose _ u i => exact fun s => .suppose (i (up _ s)) u
  | onward _ _ i j => exact fun s => .onward (i s) (j s)
theorem Der.cut {U G : List Sx} {p q : Sx} (h : Der U G p) (d : Der U (p :: G) q) : Der U G q := d.subst fun x hx => by
  rcases List.mem_cons.mp hx with e | e
  · rw [e]; exact h
  · exact .ax e
structure Kr where
  W : Type
  le : W -> W -> Prop
  refl : ∀ w, le w w
  trans : ∀ {a b c}, le a b -> le b c -> le a c
  v : W -> Str -> Prop
  mono : ∀ {a b x}, le a b -> v a x -> v b x
noncomputable def Kr.holds (K : Kr) : K.W -> Sx -> Prop
  | w, .nm x => K.v w x
  | _, .fls => False
  | w, .bin .a p q => K.holds w p /\ K.holds w q
  | w, .bin .o p q => K.holds w p \/ K.holds w q
  | w, .bin .t p q => ∀ u, K.le w u -> K.holds u p -> K.holds u q
theorem Kr.up (K : Kr) : ∀ (p : Sx) {a b : K.W}, K.le a b -> K.holds a p -> K.holds b p
  | .nm _, _, _, h, f => K.mono h f
  | .fls, _, _, _, f => f
  | .bin .a p q, _, _, h, f => ⟨K.up p h f.1, K.up q h f.2⟩
  | .bin .o p q, _, _, h, f => f.elim (fun f => .inl (K.up p h f)) fun f => .inr (K.up q h f)
  | .bin .t _ _, _, _, h, f => fun u hu g => f u (K.trans h hu) g
theorem Der.sound {U G : List Sx} {p : Sx} (d : Der U G p) (K : Kr) : ∀ w : K.W, (∀ x ∈ G, K.holds w x) -> K.holds w p := by
  have up : ∀ {G : List Sx} {w u : K.W} {q : Sx}, K.le w u -> (∀ x ∈ G, K.holds w x) -> K.holds u q -> ∀ x ∈ q :: G, K.holds u x := fun h s f x hx => by
    rcases List.mem_cons.mp hx with e | e
    · rw [e]; exact f
    · exact K.up x h (s x e)
  induction d with
  | ax h => exact fun w s => s _ h
  | any _ u ih => exact fun w s => (ih w s).elim
  | both _ _ u i j => exact fun w s => ⟨i w s, j w s⟩
  | left _ i => exact fun w s => (i w s).1
  | right _ i => exact fun w s => (i w s).2
  | one _ u i => exact fun w s => .inl (i w s)
  | other _ u i => exact fun w s => .inr (i w s)
  | cases _ _ _ i j k => exact fun w s => (i w s).elim (fun f => j w (up (K.refl w) s f)) fun f => k w (up (K.refl w) s f)
  | suppose _ u i => exact fun w s x hx f => i x (up hx s f)
  | onward _ _ i j => exact fun w s => i w s w (K.refl w) (j w s)
noncomputable def SubCl (U : List Sx) : Prop := ∀ w p q, Sx.bin w p q ∈ U -> p ∈ U /\ q ∈ U
section
variable {U : List Sx}
open Classical in
noncomputable def fillUp (U : List Sx) (b : Sx) : List Sx -> List Sx -> List Sx
  | [], G => G
  | c :: l, G => fillUp U b l (if Der U (c :: G) b then G else c :: G)
theorem fill_sub (b : Sx) : ∀ (l G : List Sx), ∀ x ∈ G, x ∈ fillUp U b l G
  | [], _, _, h => h
  | c :: l, G, x, h => by
    unfold fillUp
    refine fill_sub b l _ x ?_
    split
    · exact h
    · exact List.mem_cons_of_mem _ h
theorem fill_not (b : Sx) : ∀ (l G : List Sx), ¬ Der U G b -> ¬ Der U (fillUp U b l G) b
  | [], _, h => h
  | c :: l, G, h => by
    unfold fillUp
    refine fill_not b l _ ?_
    split
    · exact h
    · assumption
set_option tactic.hygienic true in
theorem fill_in (b : Sx) : ∀ (l G : List Sx), ∀ c ∈ l, c ∈ fillUp U b l G \/ Der U (c :: fillUp U b l G) b
  | c :: l, G, x, h => by
    unfold fillUp
    rcases List.mem_cons.mp h with e | e
    · subst e
      split
      · rename_i d; exact .inr (d.weak (sub_cons (fill_sub b l _) _))
      · exact .inl (fill_sub b l _ _ (List.mem_cons_self ..))
    · exact fill_in b l _ x e
theorem fill_U (b : Sx) : ∀ (l G : List Sx), (∀ x ∈ l, x ∈ U) -> (∀ x ∈ G, x ∈ U) -> ∀ x ∈ fillUp U b l G, x ∈ U
  | [], _, _, h => h
  | c :: l, G, hl, hG => by
    unfold fillUp
    refine fill_U b l _ (fun x hx => hl x (List.mem_cons_of_mem _ hx)) ?_
    split
    · exact hG
    · intro x hx
      rcases List.mem_cons.mp hx with e | e
      · rw [e]; exact hl c (List.mem_cons_self ..)
      · exact hG x e
structure Full (U D : List Sx) : Prop where
  sub : ∀ x ∈ D, x ∈ U
  cl : ∀ x ∈ U, Der U D x -> x ∈ D
  con : Sx.fls ∉ D
  pr : ∀ p q, Sx.bin .o p q ∈ D -> p ∈ D \/ q ∈ D
theorem full_ex (hU : SubCl U) {G : List Sx} {b : Sx} (hG : ∀ x ∈ G, x ∈ U) (hb : b ∈ U) (h : ¬ Der U G b) : ∃ D, Full U D /\ (∀ x ∈ G, x ∈ D) /\ b ∉ D := by
  have hn := fill_not b U G h
  have hi := fill_in (U := U) b U G
  have hs := fill_sub (U := U) b U G
  have hu := fill_U b U G (fun _ q => q) hG
  generalize fillUp U b U G = D at hn hi hs hu
  refine mk13 D ⟨hu, fun x hx d => ?_, fun f => hn (.any (.ax f) hb), fun p q hpq => ?_⟩ hs (fun q => hn (.ax q))
  · rcases hi x hx with q | q
    · exact q
    · exact absurd (d.cut q) hn
  · refine ob02 (hU _ _ _ (hu _ hpq)) fun up uq => ?_
    rcases hi p up with z | z
    · exact .inl z
    · rcases hi q uq with y | y
      · exact .inr y
      · exact absurd (.cases (.ax hpq) z y) hn
noncomputable def canon (U : List Sx) : Kr where
  W := { D : List Sx // Full U D }
  le a b := ∀ x ∈ a.1, x ∈ b.1
  refl _ _ h := h
  trans h g x hx := g x (h x hx)
  v a x := Sx.nm x ∈ a.1
  mono h f := h _ f
theorem canon_is (hU : SubCl U) : ∀ (p : Sx), p ∈ U -> ∀ a : (canon U).W, (canon U).holds a p ↔ p ∈ a.1
  | .nm _, _, _ => Iff.rfl
  | .fls, _, a => ⟨fun f => f.elim, fun f => a.2.con f⟩
  | .bin .a p q, h, a => by
    refine ob02 (hU _ _ _ h) fun up uq => ?_
    show (_ /\ _) ↔ _
    rw [canon_is hU p up a, canon_is hU q uq a]
    exact ⟨fun f => a.2.cl _ h (.both (.ax f.1) (.ax f.2) h), fun f => ⟨a.2.cl _ up (.left (.ax f)), a.2.cl _ uq (.right (.ax f))⟩⟩
  | .bin .o p q, h, a => by
    refine ob02 (hU _ _ _ h) fun up uq => ?_
    show (_ \/ _) ↔ _
    rw [canon_is hU p up a, canon_is hU q uq a]
    exact ⟨fun f => f.elim (fun f => a.2.cl _ h (.one (.ax f) h)) fun f => a.2.cl _ h (.other (.ax f) h), a.2.pr p q⟩
  | .bin .t p q, h, a => by
    refine ob02 (hU _ _ _ h) fun up uq => ?_
    constructor
    · intro f
      refine Classical.byContradiction fun hn => ?_
      have hd : ¬ Der U (p :: a.1) q := fun d => hn (a.2.cl _ h (.suppose d h))
      obtain ⟨D, hF, hs, hq⟩ := full_ex hU (fun x hx => by
        rcases List.mem_cons.mp hx with e | e
        · rw [e]; exact up
        · exact a.2.sub x e) uq hd
      have := f ⟨D, hF⟩ (fun x hx => hs x (List.mem_cons_of_mem _ hx)) ((canon_is hU p up ⟨D, hF⟩).mpr (hs p (List.mem_cons_self ..)))
      exact hq ((canon_is hU q uq ⟨D, hF⟩).mp this)
    · intro f u hu g
      have g' := (canon_is hU p up u).mp g
      exact (canon_is hU q uq u).mpr (u.2.cl _ uq (.onward (.ax (hu _ f)) (.ax g')))
end
noncomputable def Vd (p : Sx) : Prop := ∀ (K : Kr) (w : K.W), K.holds w p
theorem der_iff {U : List Sx} (hU : SubCl U) {p : Sx} (h : p ∈ U) : Der U [] p ↔ Vd p := by
  constructor
  · intro d K w; exact d.sound K w fun _ h => absurd h List.not_mem_nil
  · intro v
    refine Classical.byContradiction fun hn => ?_
    refine ob13 (full_ex hU (fun _ h => absurd h List.not_mem_nil) h hn) fun D hF _ hq => ?_
    exact hq ((canon_is hU p h ⟨D, hF⟩).mp (v (canon U) ⟨D, hF⟩))
end Mine
end

section
namespace Mine
open PySem
theorem Der.inU {U G : List Sx} (hU : SubCl U) {p : Sx} (d : Der U G p) : (∀ x ∈ G, x ∈ U) -> p ∈ U := by
  induction d with
  | ax h => exact fun s => s _ h
  | any _ u _ => exact fun _ => u
  | both _ _ u _ _ => exact fun _ => u
  | left _ i => exact fun s => (hU _ _ _ (i s)).1
  | right _ i => exact fun s => (hU _ _ _ (i s)).2
  | one _ u _ => exact fun _ => u
  | other _ u _ => exact fun _ => u
  | cases _ _ _ i j _ =>
    intro s
    refine j fun x hx => ?_
    rcases List.mem_cons.mp hx with e | e
    · rw [e]; exact (hU _ _ _ (i s)).1
    · exact s x e
  | suppose _ u _ => exact fun _ => u
  | onward _ _ i _ => exact fun s => (hU _ _ _ (i s)).2
theorem sub_U {U G : List Sx} {p : Sx} (hG : ∀ x ∈ G, x ∈ U) (hp : p ∈ U) : ∀ x ∈ p :: G, x ∈ U := fun x hx => by
  rcases List.mem_cons.mp hx with e | e
  · rw [e]; exact hp
  · exact hG x e
end Mine
end

section
namespace Mine
open PySem
noncomputable def MadeP (U G F : List Sx) : Sx -> Prop
  | .bin .a p q => p ∈ F /\ q ∈ F
  | .bin .o p q => p ∈ F \/ q ∈ F
  | .bin .t p q => q ∈ F \/ (p ∉ F /\ Der U (p :: G) q)
  | _ => False
noncomputable def TakenP (U G F : List Sx) (r : Sx) : Sx -> Prop
  | .bin .a p q => p = r \/ q = r
  | .bin .t p q => q = r /\ p ∈ F
  | .bin .o p q => p ∉ F /\ q ∉ F /\ Der U (p :: G) r /\ Der U (q :: G) r
  | _ => False
noncomputable def HowP (U G F : List Sx) (r : Sx) : Prop := Sx.fls ∈ F \/ MadeP U G F r \/ ∃ w ∈ F, TakenP U G F r w
section
variable {U G F : List Sx}
theorem how_sound (hF : ∀ x ∈ F, Der U G x) {r : Sx} (hr : r ∈ U) (h : HowP U G F r) : Der U G r := by
  rcases h with h | h | ⟨w, hw, h⟩
  · exact .any (hF _ h) hr
  · match r, h, hr with
    | .bin .a p q, h, hr => exact .both (hF _ h.1) (hF _ h.2) hr
    | .bin .o p q, h, hr => exact h.elim (fun h => .one (hF _ h) hr) fun h => .other (hF _ h) hr
    | .bin .t p q, h, hr => exact h.elim (fun h => .suppose ((hF _ h).weak fun x hx => List.mem_cons_of_mem _ hx) hr) fun h => .suppose h.2 hr
  · have d := hF _ hw
    match w, h, d with
    | .bin .a p q, h, d => exact h.elim (fun e => e ▸ .left d) fun e => e ▸ .right d
    | .bin .t p q, h, d => exact h.1 ▸ .onward d (hF _ h.2)
    | .bin .o p q, h, d => exact .cases d h.2.2.1 h.2.2.2
theorem fix_all (hU : SubCl U) (hG : ∀ x ∈ G, x ∈ U) (hb : ∀ x ∈ G, x ∈ F) (hF : ∀ x ∈ F, Der U G x) (hc : ∀ x ∈ U, x ∉ F -> ¬ HowP U G F x) : ∀ p, Der U G p -> p ∈ F := by
  have get : ∀ {x}, x ∈ U -> HowP U G F x -> x ∈ F := fun u h => Classical.byContradiction fun q => hc _ u q h
  have inU : ∀ x ∈ F, x ∈ U := fun x hx => (hF x hx).inU hU hG
  have key : ∀ {D : List Sx} {p : Sx}, Der U D p -> (∀ x ∈ D, x ∈ F) -> p ∈ F := by
    intro D p d
    have more : ∀ {D : List Sx} {q : Sx}, (∀ x ∈ D, x ∈ F) -> q ∈ F -> ∀ x ∈ q :: D, x ∈ F := fun s h x hx => by
      rcases List.mem_cons.mp hx with e | e
      · rw [e]; exact h
      · exact s x e
    have out : ∀ {D : List Sx} {q r : Sx}, (∀ x ∈ D, x ∈ F) -> Der U (q :: D) r -> Der U (q :: G) r := fun s d => d.subst fun x hx => by
      rcases List.mem_cons.mp hx with e | e
      · rw [e]; exact .ax (List.mem_cons_self ..)
      · exact (hF x (s x e)).weak fun y hy => List.mem_cons_of_mem _ hy
    induction d with
    | ax h => exact fun s => s _ h
    | any _ u i => exact fun s => get u (.inl (i s))
    | both _ _ u i j => exact fun s => get u (.inr (.inl ⟨i s, j s⟩))
    | left _ i => exact fun s => get (hU _ _ _ (inU _ (i s))).1 (.inr (.inr (mk12 _ (i s) (.inl rfl))))
    | right _ i => exact fun s => get (hU _ _ _ (inU _ (i s))).2 (.inr (.inr (mk12 _ (i s) (.inr rfl))))
    | one _ u i => exact fun s => get u (.inr (.inl (.inl (i s))))
    | other _ u i => exact fun s => get u (.inr (.inl (.inr (i s))))
    | @cases D p q r d1 d2 d3 i j k =>
      intro s
      have u := inU _ (i s)
      refine Classical.byCases (p := p ∈ F) (fun h => j (more s h)) fun h1 => Classical.byCases (p := q ∈ F) (fun h => k (more s h)) fun h2 => ?_
      have e2 := out s d2
      exact get (e2.inU hU (sub_U hG (hU _ _ _ u).1)) (.inr (.inr ⟨_, i s, h1, h2, e2, out s d3⟩))
    | @suppose D p q d1 u i =>
      intro s
      exact Classical.byCases (p := p ∈ F) (fun h => get u (.inr (.inl (.inl (i (more s h)))))) fun h => get u (.inr (.inl (.inr ⟨h, out s d1⟩)))
    | onward _ _ i j => exact fun s => get (hU _ _ _ (inU _ (i s))).2 (.inr (.inr ⟨_, i s, rfl, j s⟩))
  exact fun p d => key d hb
end
end Mine
end

section
namespace Mine
open PySem
noncomputable def kx : Sx -> Kd
  | .nm x => .tup [.str (Str.ofString "name"), .str x]
  | .fls => .tup [.str (Str.ofString "false")]
  | .bin w p q => .tup [.str w.s, kx p, kx q]
theorem kdIn_enc : ∀ s : Sx, kdIn (enc s) = some (kx s)
  | .nm _ => rfl
  | .fls => rfl
  | .bin w p q => by
    show (kdIns [.str w.s, enc p, enc q]).map Kd.tup = _
    have e : kdIns [.str w.s, enc p, enc q] = some [.str w.s, kx p, kx q] := by
      simp only [kdIns, kdIn_enc p, kdIn_enc q]
      rfl
    rw [e]; rfl
theorem kdOf_enc (s : Sx) : kdOf (enc s) = some (kx s) := by
  have := kdIn_enc s
  cases s <;> exact this
theorem kx_dep : ∀ s : Sx, (kx s).dep = s.dep
  | .nm _ => rfl
  | .fls => rfl
  | .bin w p q => by
    show max 0 (max (kx p).dep (max (kx q).dep 0)) + 1 = max p.dep q.dep + 1
    rw [kx_dep p, kx_dep q, Nat.max_zero, Nat.zero_max]
theorem kdD_kx : ∀ s : Sx, kdD (kx s) = enc s
  | .nm _ => rfl
  | .fls => rfl
  | .bin w p q => by
    show D.tuple [.str w.s, kdD (kx p), kdD (kx q)] = _
    rw [kdD_kx p, kdD_kx q]; rfl
theorem kx_inj {s t : Sx} (h : kx s = kx t) : s = t := by
  have e : enc s = enc t := by rw [<- kdD_kx, h, kdD_kx]
  have e2 : (enc s).py = (enc t).py := by rw [e]
  rw [enc_py, enc_py] at e2
  have e3 : encP s = encP t := Option.some.inj e2
  have := eqv_enc s t
  rw [e3] at this
  have h2 := eqv_enc t t
  rw [h2] at this
  simpa using this
theorem kx_fit {s : Sx} (h : s.dep <= 8) : tabFit true (kx s) = true := by
  have : (kx s).dep <= 8 := by rw [kx_dep]; exact h
  cases s <;> exact decide_eq_true this
theorem key_enc {s : Sx} (h : s.dep <= 8) : tabKey true (enc s) = some (kx s) := by
  unfold tabKey
  rw [kdOf_enc]
  dsimp only
  rw [if_pos (kx_fit h)]
open Classical in
theorem tabAt_cons (p : Kd × D) (l : List (Kd × D)) (k : Kd) : tabAt (p :: l) k = if p.1 = k then some p.2 else tabAt l k := by
  unfold tabAt
  rw [List.find?_cons]
  by_cases h : p.1 = k
  · simp [h]
  · simp [h]
theorem tabAt_app (l m : List (Kd × D)) (k : Kd) : tabAt (l ++ m) k = (tabAt l k).or (tabAt m k) := by
  induction l with
  | nil => rfl
  | cons p l ih =>
    rw [List.cons_append, tabAt_cons, tabAt_cons]
    split
    · rfl
    · exact ih
section
variable {S : Store} {n : Nat}
theorem tab_of {hp : Bool} {kvs : List (Kd × D)} (h : S[n]? = some (.tab hp kvs)) : tabOf S (.loc n) = some (hp, kvs) := by
  unfold tabOf
  dsimp only
  rw [h]
theorem in_tab {hp : Bool} {kvs : List (Kd × D)} (h : S[n]? = some (.tab hp kvs)) {a : D} {k : Kd} (hk : tabKey hp a = some k) : cmpM .In a (.loc n) S = .ok (tabAt kvs k).isSome S := by
  show inM a (.loc n) S = _
  unfold inM
  rw [tab_of h]
  dsimp only
  unfold tabIn
  rw [hk]; rfl
theorem nin_tab {hp : Bool} {kvs : List (Kd × D)} (h : S[n]? = some (.tab hp kvs)) {a : D} {k : Kd} (hk : tabKey hp a = some k) : cmpM .NotIn a (.loc n) S = .ok (!(tabAt kvs k).isSome) S := by
  show bnd (inM a (.loc n)) (fun c => ret (!c)) S = _
  rw [bnd_st (show inM a (.loc n) S = _ from in_tab h hk)]; rfl
theorem item_tab {hp : Bool} {kvs : List (Kd × D)} (h : S[n]? = some (.tab hp kvs)) {a d : D} {k : Kd} (hk : tabKey hp a = some k) (hd : tabAt kvs k = some d) : itemM (.loc n) a S = .ok d S := by
  unfold itemM
  rw [tab_of h]
  dsimp only
  unfold tabItem
  rw [hk]
  dsimp only
  rw [hd]; rfl
theorem set_tab {hp : Bool} {kvs : List (Kd × D)} (h : S[n]? = some (.tab hp kvs)) {a d : D} {k : Kd} (hk : tabKey hp a = some k) (hz : kvs.length < 4000000) : setItemM (.loc n) a d S = .ok () (S.set n (.tab hp (tabPut kvs k d))) := by
  unfold setItemM
  rw [tab_of h]
  dsimp only
  unfold setTab
  dsimp only
  rw [hk]
  dsimp only
  rw [if_pos hz]; rfl
theorem put_new {kvs : List (Kd × D)} {k : Kd} (h : tabAt kvs k = none) (d : D) : tabPut kvs k d = kvs ++ [(k, d)] := by
  unfold tabPut; rw [h]; rfl
theorem get_tab {hp : Bool} {kvs : List (Kd × D)} (h : S[n]? = some (.tab hp kvs)) {a : D} {k : Kd} (hk : tabKey hp a = some k) : methS mGet1 (ret (.loc n)) (ret [a]) S = .ok ((tabAt kvs k).getD .none) S := by
  show bnd (methK mGet1 (.loc n)) (fun _ => bnd (ret [a]) fun ds => mGet1.run (.loc n) ds) S = _
  have hok : mGet1.ok S (.loc n) = true := by
    show (tabOf S (.loc n)).isSome = true
    rw [tab_of h]; rfl
  rw [bnd_st (a := ()) (S1 := S) (by unfold methK; rw [if_pos hok])]
  show (match tabOf S (.loc n) with
    | some t => (match tabKey t.1 a with
      | some k => Out.ok ((tabAt t.2 k).getD .none) S
      | none => .stuck)
    | none => .stuck) = _
  rw [tab_of h]
  dsimp only
  rw [hk]
theorem list_tab {hp : Bool} {kvs : List (Kd × D)} (h : S[n]? = some (.tab hp kvs)) (hz : kvs.length <= 1000) : bf0 .list [.loc n] S = .ok (.list (kvs.map fun p => kdD p.1)) S := by
  show listB cfg0 pos0 (.loc n) S = _
  unfold listB
  rw [tab_of h]
  dsimp only
  rw [if_pos hz]; rfl
end
noncomputable def pl : Sx -> List Sx -> List Sx
  | .nm x, L => if .nm x ∈ L then L else L ++ [.nm x]
  | .fls, L => if .fls ∈ L then L else L ++ [.fls]
  | .bin w p q, L => if .bin w p q ∈ L then L else pl q (pl p L) ++ [.bin w p q]
noncomputable def Sx.sz : Sx -> Nat
  | .bin _ p q => p.sz + q.sz + 1
  | _ => 1
theorem pl_sz : ∀ (s : Sx) (L : List Sx), ∀ y ∈ pl s L, y ∈ L \/ y.sz <= s.sz
  | .nm x, L, y, h => by
    unfold pl at h
    split at h
    · exact .inl h
    · rcases List.mem_append.mp h with h | h
      · exact .inl h
      · right; rw [List.mem_singleton.mp h]; exact Nat.le_refl _
  | .fls, L, y, h => by
    unfold pl at h
    split at h
    · exact .inl h
    · rcases List.mem_append.mp h with h | h
      · exact .inl h
      · right; rw [List.mem_singleton.mp h]; exact Nat.le_refl _
  | .bin w p q, L, y, h => by
    unfold pl at h
    split at h
    · exact .inl h
    · rcases List.mem_append.mp h with h | h
      · rcases pl_sz q _ y h with h | h
        · rcases pl_sz p _ y h with h | h
          · exact .inl h
          · right; show _ <= p.sz + q.sz + 1; lia
        · right; show _ <= p.sz + q.sz + 1; lia
      · right; rw [List.mem_singleton.mp h]; exact Nat.le_refl _
theorem pl_sub : ∀ (s : Sx) (L : List Sx), ∀ y ∈ L, y ∈ pl s L
  | .nm x, L, y, h => by unfold pl; split; exact h; exact List.mem_append_left _ h
  | .fls, L, y, h => by unfold pl; split; exact h; exact List.mem_append_left _ h
  | .bin w p q, L, y, h => by unfold pl; split; exact h; exact List.mem_append_left _ (pl_sub q _ y (pl_sub p _ y h))
theorem pl_self : ∀ (s : Sx) (L : List Sx), s ∈ pl s L
  | .nm x, L => by unfold pl; split; assumption; simp
  | .fls, L => by unfold pl; split; assumption; simp
  | .bin w p q, L => by unfold pl; split; assumption; simp
theorem pl_new {w : W3} {p q : Sx} {L : List Sx} (h : Sx.bin w p q ∉ L) : Sx.bin w p q ∉ pl q (pl p L) := fun m => by
  rcases pl_sz q _ _ m with m | m
  · rcases pl_sz p _ _ m with m | m
    · exact h m
    · have : p.sz + q.sz + 1 <= p.sz := m; lia
  · have : p.sz + q.sz + 1 <= q.sz := m; lia
set_option tactic.hygienic true in
theorem pl_nodup : ∀ (s : Sx) (L : List Sx), L.Nodup -> (pl s L).Nodup
  | .nm x, L, h => by
    unfold pl; split
    · exact h
    · rename_i q; exact List.nodup_append.mpr ⟨h, by simp, fun a ha b hb e => q (by rw [List.mem_singleton.mp hb] at e; exact e ▸ ha)⟩
  | .fls, L, h => by
    unfold pl; split
    · exact h
    · rename_i q; exact List.nodup_append.mpr ⟨h, by simp, fun a ha b hb e => q (by rw [List.mem_singleton.mp hb] at e; exact e ▸ ha)⟩
  | .bin w p q, L, h => by
    unfold pl; split
    · exact h
    · rename_i z
      refine List.nodup_append.mpr ⟨pl_nodup q _ (pl_nodup p _ h), by simp, fun a ha b hb e => pl_new z ?_⟩
      rw [List.mem_singleton.mp hb] at e; exact e ▸ ha
theorem pl_cl : ∀ (s : Sx) (L : List Sx), SubCl L -> SubCl (pl s L)
  | .nm x, L, h => by
    unfold pl; split
    · exact h
    · intro w p q m
      rcases List.mem_append.mp m with m | m
      · exact ⟨List.mem_append_left _ (h w p q m).1, List.mem_append_left _ (h w p q m).2⟩
      · cases List.mem_singleton.mp m
  | .fls, L, h => by
    unfold pl; split
    · exact h
    · intro w p q m
      rcases List.mem_append.mp m with m | m
      · exact ⟨List.mem_append_left _ (h w p q m).1, List.mem_append_left _ (h w p q m).2⟩
      · cases List.mem_singleton.mp m
  | .bin v a b, L, h => by
    unfold pl; split
    · exact h
    · have hc := pl_cl b _ (pl_cl a _ h)
      intro w p q m
      rcases List.mem_append.mp m with m | m
      · exact ⟨List.mem_append_left _ (hc w p q m).1, List.mem_append_left _ (hc w p q m).2⟩
      · cases List.mem_singleton.mp m
        exact ⟨List.mem_append_left _ (pl_sub b _ _ (pl_self a L)), List.mem_append_left _ (pl_self b _)⟩
theorem pl_in {K : List Sx} (hK : SubCl K) : ∀ (s : Sx) (L : List Sx), s ∈ K -> (∀ y ∈ L, y ∈ K) -> ∀ y ∈ pl s L, y ∈ K
  | .nm x, L, hs, hL, y, m => by
    unfold pl at m; split at m
    · exact hL y m
    · rcases List.mem_append.mp m with m | m
      · exact hL y m
      · rw [List.mem_singleton.mp m]; exact hs
  | .fls, L, hs, hL, y, m => by
    unfold pl at m; split at m
    · exact hL y m
    · rcases List.mem_append.mp m with m | m
      · exact hL y m
      · rw [List.mem_singleton.mp m]; exact hs
  | .bin w p q, L, hs, hL, y, m => by
    unfold pl at m; split at m
    · exact hL y m
    · rcases List.mem_append.mp m with m | m
      · exact pl_in hK q _ (hK w p q hs).2 (pl_in hK p _ (hK w p q hs).1 hL) y m
      · rw [List.mem_singleton.mp m]; exact hs
theorem nodup_le {K : List Sx} : ∀ {L : List Sx}, L.Nodup -> (∀ y ∈ L, y ∈ K) -> L.length <= K.length := by
  intro L hn hs
  induction L generalizing K with
  | nil => exact Nat.zero_le _
  | cons a L ih =>
    refine ob02 (List.nodup_cons.mp hn) fun h1 h2 => ?_
    have ha := hs a (List.mem_cons_self ..)
    have := ih (K := K.erase a) h2 fun y hy => (List.mem_erase_of_ne (show y ≠ a from fun e => h1 (e ▸ hy))).mpr (hs y (List.mem_cons_of_mem _ hy))
    rw [List.length_erase_of_mem ha] at this
    have : 0 < K.length := List.length_pos_of_mem ha
    show L.length + 1 <= _
    lia
theorem pl_dep {n : Nat} (s : Sx) (L : List Sx) (hs : s.dep <= n) (hL : ∀ y ∈ L, y.dep <= n) : ∀ y ∈ pl s L, y.dep <= n := by
  induction s generalizing L with
  | nm x => intro y m; unfold pl at m; split at m; exact hL y m; rcases List.mem_append.mp m with m | m; exact hL y m; rw [List.mem_singleton.mp m]; exact hs
  | fls => intro y m; unfold pl at m; split at m; exact hL y m; rcases List.mem_append.mp m with m | m; exact hL y m; rw [List.mem_singleton.mp m]; exact hs
  | bin w p q ip iq =>
    intro y m
    have hp : p.dep <= n := by have : max p.dep q.dep + 1 <= n := hs; lia
    have hq : q.dep <= n := by have : max p.dep q.dep + 1 <= n := hs; lia
    unfold pl at m; split at m
    · exact hL y m
    · rcases List.mem_append.mp m with m | m
      · exact iq _ hq (ip _ hp hL) y m
      · rw [List.mem_singleton.mp m]; exact hs
end Mine
end

section
namespace Mine
open PySem
section
variable {α : Type} {S S1 : Store}
theorem fin_if {m : EM Bool} {x y : EM Fl} {k : Sg -> EM Fl} {b : Bool} (h : m S = .ok b S1) : finM (seqM (ifM m x y) k) S = finM (seqM (if b then x else y) k) S1 := by
  have e := ifM_st (x := x) (y := y) h
  generalize ifM m x y = a at e
  unfold finM seqM bnd
  rw [e]
theorem fin_seq (m : EM Fl) (f k : Sg -> EM Fl) : finM (seqM (seqM m f) k) = finM (seqM m fun σ => seqM (f σ) k) := by rw [seqM_seq]
theorem fin_nxt (σ : Sg) (k : Sg -> EM Fl) : finM (seqM (nxt σ) k) = finM (k σ) := rfl
theorem fin_ret_st {m : EM D} {k : Sg -> EM Fl} {d : D} (h : m S = .ok d S1) : finM (seqM (bnd m fun d => ret (.ret d)) k) S = .ok d S1 := by
  refine fin_st ?_
  have e : (bnd m fun d => ret (Fl.ret d)) S = .ok (Fl.ret d) S1 := by rw [bnd_st h]; rfl
  unfold seqM
  rw [bnd_st e]; rfl
theorem fin_put {m : EM D} {k : Sg -> EM Fl} {σ : Sg} {i : Nat} {d : D} (h : m S = .ok d S1) : finM (seqM (bnd m fun d => ret (.next (put σ i d))) k) S = finM (k (put σ i d)) S1 :=
  go_st (by rw [bnd_st h]; rfl)
theorem fin_do {m : EM α} {k : Sg -> EM Fl} {σ : Sg} {d : α} (h : m S = .ok d S1) : finM (seqM (bnd m fun _ => ret (.next σ)) k) S = finM (k σ) S1 :=
  go_st (by rw [bnd_st h]; rfl)
theorem set_go {a k d : D} {σ : Sg} {kk : Sg -> EM Fl} (h : setItemM a k d S = .ok () S1) : finM (seqM (bnd (setItemM a k d) fun _ => ret (.next σ)) kk) S = finM (kk σ) S1 := fin_do h
theorem set_self {n : Nat} {o : SObj} (h : S[n]? = some o) : S.set n o = S := by
  refine ob11 (List.getElem?_eq_some_iff.mp h) fun hl e => ?_
  rw [<- e]; exact List.set_getElem_self hl
theorem set_at {n : Nat} {o p : SObj} (h : S[n]? = some o) : (S.set n p)[n]? = some p := by
  rw [List.getElem?_set_self]; exact (List.getElem?_eq_some_iff.mp h).1
theorem set_ne {n m : Nat} {p : SObj} (h : n ≠ m) : (S.set n p)[m]? = S[m]? := List.getElem?_set_ne h
end
noncomputable def tlb (L : List Sx) : List (Kd × D) := L.map fun s => (kx s, D.bool true)
open Classical in
theorem at_tlb (L : List Sx) (s : Sx) : tabAt (tlb L) (kx s) = if s ∈ L then some (.bool true) else none := by
  induction L with
  | nil => rfl
  | cons a L ih =>
    show tabAt ((kx a, D.bool true) :: tlb L) _ = _
    rw [tabAt_cons, ih]
    by_cases h : a = s
    · subst h; simp
    · have h' : ¬ kx a = kx s := fun e => h (kx_inj e)
      have h2 : ¬ s = a := fun e => h e.symm
      simp [h', h2]
theorem is_tlb (L : List Sx) (s : Sx) : (tabAt (tlb L) (kx s)).isSome = decide (s ∈ L) := by
  rw [at_tlb]
  by_cases h : s ∈ L
  · simp [h]
  · simp [h]
theorem tlb_app (L : List Sx) (s : Sx) : tlb (L ++ [s]) = tlb L ++ [(kx s, .bool true)] := by unfold tlb; rw [List.map_append]; rfl
theorem len_tlb (L : List Sx) : (tlb L).length = L.length := by unfold tlb; rw [List.length_map]
theorem put_tlb {L : List Sx} {s : Sx} (h : s ∉ L) : tabPut (tlb L) (kx s) (.bool true) = tlb (L ++ [s]) := by
  rw [put_new (by rw [at_tlb, if_neg h]), tlb_app]
theorem pl_len : ∀ (s : Sx) (L : List Sx), (pl s L).length <= L.length + s.sz
  | .nm x, L => by unfold pl; split <;> simp [Sx.sz]
  | .fls, L => by unfold pl; split <;> simp [Sx.sz]
  | .bin w p q, L => by
    unfold pl
    split
    · lia
    · have h1 := pl_len q (pl p L)
      have h2 := pl_len p L
      rw [List.length_append]
      show _ + 1 <= L.length + (p.sz + q.sz + 1)
      lia
noncomputable def isBin : Sx -> Bool
  | .bin .. => true
  | _ => false
noncomputable def hdS : Sx -> Str
  | .nm _ => Str.ofString "name"
  | .fls => Str.ofString "false"
  | .bin w _ _ => w.s
theorem enc_hd (s : Sx) : itemM (enc s) (.int 0) = ret (.str (hdS s)) := by cases s <;> rfl
theorem enc_1 (w : W3) (p q : Sx) : itemM (enc (.bin w p q)) (.int 1) = ret (enc p) := rfl
theorem enc_2 (w : W3) (p q : Sx) : itemM (enc (.bin w p q)) (.int 2) = ret (enc q) := rfl
namespace L11
theorem in_join (s : Sx) : cmpM .In (.str (hdS s)) c_JOINING = ret (isBin s) := by
  cases s with
  | nm x => rfl
  | fls => rfl
  | bin w p q => cases w <;> rfl
theorem c_put (n : Nat) (a b : D) : callF C11 (n + 1) (Str.ofString "put_parts") [a, b] = s_put_parts (callF C11 n) a b := by kernel_rfl
theorem put_ok : ∀ (s : Sx) (k n : Nat) (L : List Sx) (S : Store), S[n]? = some (.tab true (tlb L)) -> s.dep <= k -> s.dep <= 8 -> L.length + s.sz <= 900 ->
    callF C11 k (Str.ofString "put_parts") [.loc n, enc s] S = .ok .none (S.set n (.tab true (tlb (pl s L)))) := by
  intro s
  induction s with
  | nm x =>
    intro k n L S hS hk h8 hz
    match k, hk with
    | k + 1, _ =>
      rw [c_put]
      show finM (b_put_parts_5 (callF C11 k) [some (.loc n), some (enc (.nm x)), none, none]) S = _
      unfold b_put_parts_5
      rw [fin_if (S1 := S) (b := decide (Sx.nm x ∈ L)) (by
        show cmpM .In (enc (.nm x)) (.loc n) S = _
        rw [in_tab hS (key_enc h8), is_tlb])]
      by_cases h : Sx.nm x ∈ L
      · have e : pl (.nm x) L = L := by unfold pl; rw [if_pos h]
        rw [e, set_self hS, if_pos (decide_eq_true h)]
        rfl
      · have e : pl (.nm x) L = L ++ [.nm x] := by unfold pl; rw [if_neg h]
        rw [if_neg (by simpa using h), fin_nxt]
        unfold b_put_parts_3
        refine (fin_if (S1 := S) (b := false) rfl).trans ?_
        rw [if_neg Bool.false_ne_true, fin_nxt]
        unfold b_put_parts_0
        refine (set_go (set_tab hS (key_enc h8) (by rw [len_tlb]; lia))).trans ?_
        rw [put_tlb h, e]; rfl
  | fls =>
    intro k n L S hS hk h8 hz
    match k, hk with
    | k + 1, _ =>
      rw [c_put]
      show finM (b_put_parts_5 (callF C11 k) [some (.loc n), some (enc .fls), none, none]) S = _
      unfold b_put_parts_5
      rw [fin_if (S1 := S) (b := decide (Sx.fls ∈ L)) (by
        show cmpM .In (enc .fls) (.loc n) S = _
        rw [in_tab hS (key_enc h8), is_tlb])]
      by_cases h : Sx.fls ∈ L
      · have e : pl .fls L = L := by unfold pl; rw [if_pos h]
        rw [e, set_self hS, if_pos (decide_eq_true h)]
        rfl
      · have e : pl .fls L = L ++ [.fls] := by unfold pl; rw [if_neg h]
        rw [if_neg (by simpa using h), fin_nxt]
        unfold b_put_parts_3
        refine (fin_if (S1 := S) (b := false) rfl).trans ?_
        rw [if_neg Bool.false_ne_true, fin_nxt]
        unfold b_put_parts_0
        refine (set_go (set_tab hS (key_enc h8) (by rw [len_tlb]; lia))).trans ?_
        rw [put_tlb h, e]; rfl
  | bin w p q ip iq =>
    intro k n L S hS hk h8 hz
    have hpq : max p.dep q.dep + 1 <= k := hk
    have h8' : max p.dep q.dep + 1 <= 8 := h8
    have hz' : L.length + (p.sz + q.sz + 1) <= 900 := hz
    match k, hpq with
    | k + 1, hpq =>
      rw [c_put]
      show finM (b_put_parts_5 (callF C11 k) [some (.loc n), some (enc (.bin w p q)), none, none]) S = _
      unfold b_put_parts_5
      rw [fin_if (S1 := S) (b := decide (Sx.bin w p q ∈ L)) (by
        show cmpM .In (enc (.bin w p q)) (.loc n) S = _
        rw [in_tab hS (key_enc h8), is_tlb])]
      by_cases h : Sx.bin w p q ∈ L
      · have e : pl (.bin w p q) L = L := by
          show (if Sx.bin w p q ∈ L then L else pl q (pl p L) ++ [.bin w p q]) = _
          rw [if_pos h]
        rw [e, set_self hS, if_pos (decide_eq_true h)]
        rfl
      · have e : pl (.bin w p q) L = pl q (pl p L) ++ [.bin w p q] := by
          show (if Sx.bin w p q ∈ L then L else pl q (pl p L) ++ [.bin w p q]) = _
          rw [if_neg h]
        rw [if_neg (by simpa using h), fin_nxt]
        unfold b_put_parts_3
        refine (fin_if (S1 := S) (b := true) (congrFun (in_join (.bin w p q)) S)).trans ?_
        rw [if_pos rfl]
        unfold b_put_parts_2
        have e1 := ip k n L S hS (by lia) (by lia) (by lia)
        have hS1 := set_at (p := .tab true (tlb (pl p L))) hS
        have hl := pl_len p L
        have e2 := iq k n (pl p L) _ hS1 (by lia) (by lia) (by lia)
        rw [List.set_set] at e2
        have hS2 := set_at (p := .tab true (tlb (pl q (pl p L)))) hS
        have hl2 := pl_len q (pl p L)
        rw [fin_seq]
        refine (fin_do (d := .none) e1).trans ?_
        unfold b_put_parts_1
        rw [fin_seq]
        refine (fin_do (d := .none) e2).trans ?_
        rw [fin_nxt]
        unfold b_put_parts_0
        refine (set_go (set_tab hS2 (key_enc h8) (by rw [len_tlb]; lia))).trans ?_
        rw [put_tlb (pl_new h), List.set_set, e]; rfl
theorem c_parts (n : Nat) (a : D) : callF C11 (n + 1) (Str.ofString "parts") [a] = s_parts (callF C11 n) a := by kernel_rfl
theorem parts_ok (s : Sx) (k : Nat) (S : Store) (hk : s.dep <= k) (h8 : s.dep <= 8) (hz : s.sz <= 900) : callF C11 (k + 1) (Str.ofString "parts") [enc s] S = .ok (.list ((pl s []).map enc)) (S ++ [.tab true (tlb (pl s []))]) := by
  rw [c_parts]
  show finM (b_parts_2 (callF C11 k) [some (enc s), none, none, none]) S = _
  unfold b_parts_2
  refine (fin_put (d := .loc S.length) (S1 := S ++ [.tab true []]) rfl).trans ?_
  have h0 : (S ++ [SObj.tab true []])[S.length]? = some (.tab true (tlb [])) := by simp [tlb]
  have e1 := put_ok s k S.length [] _ h0 hk h8 (by simpa using hz)
  have e2 : (S ++ [SObj.tab true []]).set S.length (.tab true (tlb (pl s []))) = S ++ [.tab true (tlb (pl s []))] := by simp
  rw [e2] at e1
  unfold b_parts_1
  refine (fin_do (d := .none) e1).trans ?_
  unfold b_parts_0
  have h1 : (S ++ [SObj.tab true (tlb (pl s []))])[S.length]? = some (.tab true (tlb (pl s []))) := by simp
  have hl := pl_len s []
  refine fin_ret_st ?_
  show bf0 .list [.loc S.length] _ = _
  rw [list_tab h1 (by rw [len_tlb]; simp only [List.length_nil] at hl; lia)]
  have : (tlb (pl s [])).map (fun p => kdD p.1) = (pl s []).map enc := by
    unfold tlb
    rw [List.map_map]
    exact List.map_congr_left fun x _ => kdD_kx x
  rw [this]
end L11
end Mine
end

section
namespace Mine
open PySem
noncomputable def ptab : List Sx -> Nat -> List (Kd × D)
  | [], _ => []
  | s :: r, k => (kx s, .int k) :: ptab r (k + 1)
theorem ptab_app : ∀ (l : List Sx) (s : Sx) (k : Nat), ptab (l ++ [s]) k = ptab l k ++ [(kx s, .int ((k + l.length : Nat) : Int))]
  | [], s, k => rfl
  | a :: l, s, k => by
    show (kx a, D.int k) :: ptab (l ++ [s]) (k + 1) = (kx a, D.int k) :: (ptab l (k + 1) ++ _)
    rw [ptab_app l s (k + 1)]
    have : k + 1 + l.length = k + (a :: l).length := by rw [List.length_cons]; lia
    rw [this]
theorem ptab_len : ∀ (l : List Sx) (k : Nat), (ptab l k).length = l.length
  | [], _ => rfl
  | a :: l, k => congrArg (· + 1) (ptab_len l (k + 1))
theorem ptab_none : ∀ (l : List Sx) (k : Nat) (s : Sx), s ∉ l -> tabAt (ptab l k) (kx s) = none
  | [], _, _, _ => rfl
  | a :: l, k, s, h => by
    show tabAt ((kx a, D.int k) :: ptab l (k + 1)) _ = _
    rw [tabAt_cons, if_neg fun e => h (by rw [kx_inj e]; exact List.mem_cons_self ..)]
    exact ptab_none l (k + 1) s fun m => h (List.mem_cons_of_mem _ m)
theorem ptab_at : ∀ (l : List Sx) (k : Nat) (j : Nat) (s : Sx), l.Nodup -> l[j]? = some s -> tabAt (ptab l k) (kx s) = some (.int ((k + j : Nat) : Int))
  | [], _, _, _, _, h => by cases h
  | a :: l, k, j, s, hn, h => by
    refine ob02 (List.nodup_cons.mp hn) fun h1 h2 => ?_
    show tabAt ((kx a, D.int k) :: ptab l (k + 1)) _ = _
    rw [tabAt_cons]
    cases j with
    | zero =>
      cases h
      rw [if_pos rfl]; rfl
    | succ j =>
      have h' : l[j]? = some s := h
      have : ¬ kx a = kx s := fun e => h1 (by rw [kx_inj e]; exact List.mem_of_getElem? h')
      rw [if_neg this, ptab_at l (k + 1) j s h2 h']
      have : k + 1 + j = k + (j + 1) := by lia
      rw [this]
namespace L11
noncomputable abbrev nmS : Str := Str.ofString "Search"
section
variable {S : Store} {i dn : Nat} {fs : List (Str × D)}
theorem att_ok {x : Str} {d : D} (h1 : S[i]? = some (.inst nmS dn)) (h2 : S[dn]? = some (.ns fs)) (hx : att11 nmS x = true) (hl : fs.lookup x = some d) : attrM C11 (.loc i) x S = .ok d S := by
  have hc : (C11.clss.contains nmS && C11.att nmS x) = true := by
    rw [Bool.and_eq_true]; exact ⟨by decide +kernel, hx⟩
  unfold attrM
  dsimp only
  rw [h1]
  dsimp only
  rw [h2]
  dsimp only
  rw [if_pos hc, hl]; rfl
theorem setAtt_ok {x : Str} {d : D} (h1 : S[i]? = some (.inst nmS dn)) (h2 : S[dn]? = some (.ns fs)) (hx : att11 nmS x = true) (hz : fs.length < 100) : setAttrM C11 (.loc i) x d S = .ok () (S.set dn (.ns ((x, d) :: fs))) := by
  have hc : (C11.clss.contains nmS && C11.att nmS x && decide (fs.length < 100)) = true := by
    rw [Bool.and_eq_true, Bool.and_eq_true]; exact ⟨⟨by decide +kernel, hx⟩, decide_eq_true hz⟩
  unfold setAttrM
  dsimp only
  rw [h1]
  dsimp only
  rw [h2]
  dsimp only
  rw [if_pos hc]; rfl
theorem meth_ok {m : Str} (cf : CF) (ds : List D) (h1 : S[i]? = some (.inst nmS dn)) (h2 : S[dn]? = some (.ns fs)) (hm : methOk C11 nmS m = true) (hl : fs.lookup m = none) :
    oMeth C11 cf m (ret (.loc i)) (ret ds) S = calm (cf (mname nmS m) (.loc i :: ds)) S := by
  show bnd (clsM C11 (.loc i) m) (fun f => bnd (ret ds) fun ds => calm (cf f (.loc i :: ds))) S = _
  have e : clsM C11 (.loc i) m S = .ok (mname nmS m) S := by
    unfold clsM instOf
    dsimp only
    rw [h1]
    dsimp only
    rw [h2]
    dsimp only
    rw [if_pos (by rw [hm, hl]; rfl)]
  rw [bnd_st e]; rfl
end
structure Sea (S : Store) (i dn pn mn : Nat) (U : List Sx) (M : List (Kd × D)) : Prop where
  inst : S[i]? = some (.inst nmS dn)
  ns : S[dn]? = some (.ns [(Str.ofString "made", .loc mn), (Str.ofString "places", .loc pn), (Str.ofString "order", .list (U.map enc))])
  pl : S[pn]? = some (.tab true (ptab U 0))
  md : S[mn]? = some (.tab true M)
  ne1 : mn ≠ i
  ne2 : mn ≠ dn
  ne3 : mn ≠ pn
structure UOk (U : List Sx) : Prop where
  nd : U.Nodup
  cl : SubCl U
  dep : ∀ s ∈ U, s.dep <= 8
  len : U.length <= 16
section
variable {S : Store} {i dn pn mn : Nat} {U : List Sx} {M : List (Kd × D)}
theorem Sea.order (h : Sea S i dn pn mn U M) : attrM C11 (.loc i) (Str.ofString "order") S = .ok (.list (U.map enc)) S := att_ok h.inst h.ns (by decide +kernel) rfl
theorem Sea.places (h : Sea S i dn pn mn U M) : attrM C11 (.loc i) (Str.ofString "places") S = .ok (.loc pn) S := att_ok h.inst h.ns (by decide +kernel) rfl
theorem Sea.made (h : Sea S i dn pn mn U M) : attrM C11 (.loc i) (Str.ofString "made") S = .ok (.loc mn) S := att_ok h.inst h.ns (by decide +kernel) rfl
theorem Sea.at_order {j : Nat} {s : Sx} (hj : U[j]? = some s) : itemM (.list (U.map enc)) (.int j) = ret (enc s) := itemL_at (by rw [List.getElem?_map, hj]; rfl)
theorem c_kind (n : Nat) (a b : D) : callF C11 (n + 1) (mname nmS (Str.ofString "kind")) [a, b] = s_Search_kind (callF C11 n) a b := by kernel_rfl
theorem c_half (n : Nat) (a b c : D) : callF C11 (n + 1) (mname nmS (Str.ofString "half")) [a, b, c] = s_Search_half (callF C11 n) a b c := by kernel_rfl
theorem kind_run (h : Sea S i dn pn mn U M) (n : Nat) {j : Nat} {s : Sx} (hj : U[j]? = some s) : callF C11 (n + 1) (mname nmS (Str.ofString "kind")) [.loc i, .int j] S = .ok (.str (hdS s)) S := by
  rw [c_kind]
  show finM (b_Search_kind_0 (callF C11 n) [some (.loc i), some (.int j)]) S = _
  unfold b_Search_kind_0
  refine fin_ret_st ?_
  show bnd (bnd (attrM C11 (.loc i) (Str.ofString "order")) fun a => itemM a (.int j)) (fun a => itemM a (.int 0)) S = _
  rw [bnd_assoc, bnd_st h.order, Sea.at_order hj]
  show itemM (enc s) (.int 0) S = _
  rw [enc_hd]; rfl
theorem Sea.kind (h : Sea S i dn pn mn U M) (n : Nat) {j : Nat} {s : Sx} (hj : U[j]? = some s) : oMeth C11 (callF C11 (n + 1)) (Str.ofString "kind") (ret (.loc i)) (ret [.int j]) S = .ok (.str (hdS s)) S := by
  rw [meth_ok _ _ h.inst h.ns (by decide +kernel) rfl]
  exact calm_st (kind_run h n hj)
theorem Sea.half1 (h : Sea S i dn pn mn U M) (hU : UOk U) (n : Nat) {j k : Nat} {w : W3} {p q : Sx} (hj : U[j]? = some (.bin w p q)) (hk : U[k]? = some p) : oMeth C11 (callF C11 (n + 1)) (Str.ofString "half") (ret (.loc i)) (ret [.int j, .int 1]) S = .ok (.int k) S := by
  rw [meth_ok _ _ h.inst h.ns (by decide +kernel) rfl]
  refine calm_st ?_
  rw [c_half]
  show finM (b_Search_half_0 (callF C11 n) [some (.loc i), some (.int j), some (.int 1)]) S = _
  unfold b_Search_half_0
  refine fin_ret_st ?_
  show bnd (attrM C11 (.loc i) (Str.ofString "places")) (fun a => bnd (bnd (bnd (attrM C11 (.loc i) (Str.ofString "order")) fun a => itemM a (.int j)) fun a => itemM a (.int 1)) fun k => itemM a k) S = _
  rw [bnd_st h.places, bnd_assoc, bnd_assoc, bnd_st h.order, Sea.at_order hj]
  show itemM (.loc pn) (enc p) S = _
  have := item_tab h.pl (key_enc (hU.dep p (List.mem_of_getElem? hk))) (ptab_at U 0 k p hU.nd hk)
  rw [this]
  simp
theorem Sea.half2 (h : Sea S i dn pn mn U M) (hU : UOk U) (n : Nat) {j k : Nat} {w : W3} {p q : Sx} (hj : U[j]? = some (.bin w p q)) (hk : U[k]? = some q) : oMeth C11 (callF C11 (n + 1)) (Str.ofString "half") (ret (.loc i)) (ret [.int j, .int 2]) S = .ok (.int k) S := by
  rw [meth_ok _ _ h.inst h.ns (by decide +kernel) rfl]
  refine calm_st ?_
  rw [c_half]
  show finM (b_Search_half_0 (callF C11 n) [some (.loc i), some (.int j), some (.int 2)]) S = _
  unfold b_Search_half_0
  refine fin_ret_st ?_
  show bnd (attrM C11 (.loc i) (Str.ofString "places")) (fun a => bnd (bnd (bnd (attrM C11 (.loc i) (Str.ofString "order")) fun a => itemM a (.int j)) fun a => itemM a (.int 2)) fun k => itemM a k) S = _
  rw [bnd_st h.places, bnd_assoc, bnd_assoc, bnd_st h.order, Sea.at_order hj]
  show itemM (.loc pn) (enc q) S = _
  have := item_tab h.pl (key_enc (hU.dep q (List.mem_of_getElem? hk))) (ptab_at U 0 k q hU.nd hk)
  rw [this]
  simp
end
theorem c_init (n : Nat) (a b : D) : callF C11 (n + 1) (mname nmS (Str.ofString "__init__")) [a, b] = s_Search___init__ (callF C11 n) a b := by kernel_rfl
theorem fill_ok (cf : CF) (s : Sx) (i dn pn : Nat) (U : List Sx) (hn : U.Nodup) (hd : ∀ x ∈ U, x.dep <= 8) (hz : U.length <= 900) (fs : List (Str × D)) (hf : fs.lookup (Str.ofString "places") = some (.loc pn)) :
    ∀ (r l : List Sx) (σ : Sg) (S : Store), U = l ++ r -> S[i]? = some (.inst nmS dn) -> S[dn]? = some (.ns fs) -> pn ≠ i -> pn ≠ dn -> S[pn]? = some (.tab true (ptab l 0)) -> (∃ u v rest, σ = some (.loc i) :: some (enc s) :: u :: v :: rest) ->
    ∃ σ', (∃ u v rest, σ' = some (.loc i) :: some (enc s) :: u :: v :: rest) /\ forE (fun i d σ => b_Search___init___1 cf (put (put σ 2 (.int i)) 3 d)) l.length (r.map enc) σ S = .ok (.next σ') (S.set pn (.tab true (ptab U 0)))
  | [], l, σ, S, hU, h1, h2, n1, n2, h3, hσ => by
    refine mk12 σ hσ ?_
    rw [List.append_nil] at hU
    rw [hU, set_self h3]; rfl
  | a :: r, l, σ, S, hU, h1, h2, n1, n2, h3, hσ => by
    refine ob31 hσ fun u v rest er1 => ?_; clear hσ; subst er1
    have ha : a ∈ U := by rw [hU]; simp
    have hal : a ∉ l := by
      intro m
      rw [hU, List.nodup_append] at hn
      exact hn.2.2 a m a (List.mem_cons_self ..) rfl
    have hlen : l.length <= U.length := by rw [hU, List.length_append]; lia
    have e1 : setItemM (.loc pn) (enc a) (.int (l.length : Nat)) S = .ok () (S.set pn (.tab true (ptab (l ++ [a]) 0))) := by
      rw [set_tab h3 (key_enc (hd a ha)) (by rw [ptab_len]; lia), put_new (ptab_none l 0 a hal), ptab_app, Nat.zero_add]
    have e2 : b_Search___init___1 cf (put (put (some (.loc i) :: some (enc s) :: u :: v :: rest) 2 (.int (l.length : Nat))) 3 (enc a)) S = .ok (.next (some (.loc i) :: some (enc s) :: some (.int (l.length : Nat)) :: some (enc a) :: rest)) (S.set pn (.tab true (ptab (l ++ [a]) 0))) := by
      show seqM (bnd (attrM C11 (.loc i) (Str.ofString "places")) fun x => bnd (setItemM x (enc a) (.int (l.length : Nat))) fun _ => ret (.next (some (.loc i) :: some (enc s) :: some (.int (l.length : Nat)) :: some (enc a) :: rest))) nxt S = _
      refine (seq_st (S1 := S.set pn (.tab true (ptab (l ++ [a]) 0))) (σ := some (.loc i) :: some (enc s) :: some (.int (l.length : Nat)) :: some (enc a) :: rest) ?_).trans rfl
      rw [bnd_st (att_ok h1 h2 (by decide +kernel) hf), bnd_st e1]; rfl
    obtain ⟨σ', hσ', e3⟩ := fill_ok cf s i dn pn U hn hd hz fs hf r (l ++ [a]) (some (.loc i) :: some (enc s) :: some (.int (l.length : Nat)) :: some (enc a) :: rest) (S.set pn (.tab true (ptab (l ++ [a]) 0))) (by rw [hU]; simp)
      (by rw [set_ne n1]; exact h1) (by rw [set_ne n2]; exact h2) n1 n2 (set_at h3) ⟨_, _, _, rfl⟩
    refine mk12 σ' hσ' ?_
    rw [List.length_append] at e3
    rw [List.set_set] at e3
    have q : forE (fun i d σ => b_Search___init___1 cf (put (put σ 2 (.int i)) 3 d)) l.length ((a :: r).map enc) (some (.loc i) :: some (enc s) :: u :: v :: rest) = bnd (calm (b_Search___init___1 cf (put (put (some (.loc i) :: some (enc s) :: u :: v :: rest) 2 (.int (l.length : Nat))) 3 (enc a)))) fun f => match f with
      | .next σ' => forE (fun i d σ => b_Search___init___1 cf (put (put σ 2 (.int i)) 3 d)) (l.length + 1) (r.map enc) σ'
      | .ret v => ret (.ret v) := rfl
    rw [q, bnd_st (calm_st e2)]
    exact e3
end L11
end Mine
end

section
namespace Mine
open PySem
theorem app_set {α : Type} (a l : List α) (j : Nat) (x : α) : (a ++ l).set (a.length + j) x = a ++ l.set j x := by
  rw [List.set_append_right _ _ (Nat.le_add_right _ _), Nat.add_sub_cancel_left]
theorem app_get {α : Type} (a l : List α) (j : Nat) : (a ++ l)[a.length + j]? = l[j]? := by
  rw [List.getElem?_append_right (Nat.le_add_right _ _), Nat.add_sub_cancel_left]
namespace L11
noncomputable def made0 (S0 : Store) (U : List Sx) : Store := S0 ++ [.ns [(Str.ofString "made", .loc (S0.length + 4)), (Str.ofString "places", .loc (S0.length + 3)), (Str.ofString "order", .list (U.map enc))], .inst nmS S0.length, .tab true (tlb U), .tab true (ptab U 0), .tab true []]
theorem made0_sea (S0 : Store) (U : List Sx) : Sea (made0 S0 U) (S0.length + 1) S0.length (S0.length + 3) (S0.length + 4) U [] := by
  refine ⟨?_, ?_, ?_, ?_, by lia, by lia, by lia⟩
  · exact app_get S0 _ 1
  · exact app_get S0 _ 0
  · exact app_get S0 _ 3
  · exact app_get S0 _ 4
set_option tactic.hygienic true in
theorem init_ok (s : Sx) (k : Nat) (S0 : Store) (hk : s.dep <= k) (h8 : s.dep <= 8) (hz : s.sz <= 900) (h16 : (pl s []).length <= 16) :
    callF C11 (k + 2) (mname nmS (Str.ofString "__init__")) [.loc (S0.length + 1), enc s] (S0 ++ [.ns [], .inst nmS S0.length]) = .ok .none (made0 S0 (pl s [])) := by
  rw [c_init]
  show finM (b_Search___init___6 (callF C11 (k + 1)) [some (.loc (S0.length + 1)), some (enc s), none, none, none, none, none, none, none]) _ = _
  unfold b_Search___init___6
  have e1 := parts_ok s k (S0 ++ [.ns [], .inst nmS S0.length]) hk h8 hz
  have e1' : S0 ++ [SObj.ns [], .inst nmS S0.length] ++ [.tab true (tlb (pl s []))] = S0 ++ [.ns [], .inst nmS S0.length, .tab true (tlb (pl s []))] := by simp
  rw [e1'] at e1
  refine (go_st (σ := [some (.loc (S0.length + 1)), some (enc s), none, none, none, none, none, none, none]) (S1 := S0 ++ [.ns [(Str.ofString "order", .list ((pl s []).map enc))], .inst nmS S0.length, .tab true (tlb (pl s []))]) ?_).trans ?_
  · show bnd (calm (callF C11 (k + 1) (Str.ofString "parts") [enc s])) (fun d => bnd (setAttrM C11 (.loc (S0.length + 1)) (Str.ofString "order") d) fun _ => ret (Fl.next _)) _ = _
    rw [bnd_st (calm_st e1), bnd_st (setAtt_ok (dn := S0.length) (fs := []) (app_get S0 _ 1) (app_get S0 _ 0) (by decide +kernel) (by decide))]
    have := app_set S0 [SObj.ns [], .inst nmS S0.length, .tab true (tlb (pl s []))] 0 (.ns [(Str.ofString "order", .list ((pl s []).map enc))])
    rw [Nat.add_zero] at this
    rw [this]; rfl
  unfold b_Search___init___5
  refine (fin_if (b := false) (S1 := S0 ++ [.ns [(Str.ofString "order", .list ((pl s []).map enc))], .inst nmS S0.length, .tab true (tlb (pl s []))]) ?_).trans ?_
  · show bnd (bnd (bnd (attrM C11 (.loc (S0.length + 1)) (Str.ofString "order")) fun d => bnd (ret []) fun ds => ret (d :: ds)) fun ds => bf0 .len ds) (fun a => cmpM .Gt a c_MOST_PARTS) _ = _
    rw [bnd_assoc, bnd_assoc, bnd_st (att_ok (dn := S0.length) (fs := [(Str.ofString "order", .list ((pl s []).map enc))]) (app_get S0 _ 1) (app_get S0 _ 0) (by decide +kernel) rfl)]
    show Out.ok (decide ((16 : Int) < ((List.map enc (pl s [])).length : Nat))) _ = _
    rw [List.length_map, decide_eq_false (by lia)]
  rw [if_neg Bool.false_ne_true, fin_nxt]
  unfold b_Search___init___3
  refine (go_st (σ := [some (.loc (S0.length + 1)), some (enc s), none, none, none, none, none, none, none]) (S1 := S0 ++ [.ns [(Str.ofString "places", .loc (S0.length + 3)), (Str.ofString "order", .list ((pl s []).map enc))], .inst nmS S0.length, .tab true (tlb (pl s [])), .tab true []]) ?_).trans ?_
  · have e2 : mkTab true (S0 ++ [SObj.ns [(Str.ofString "order", .list ((pl s []).map enc))], .inst nmS S0.length, .tab true (tlb (pl s []))]) = .ok (.loc (S0.length + 3)) (S0 ++ [SObj.ns [(Str.ofString "order", .list ((pl s []).map enc))], .inst nmS S0.length, .tab true (tlb (pl s [])), .tab true []]) := by
      unfold mkTab; simp
    show bnd (mkTab true) (fun d => bnd (setAttrM C11 (.loc (S0.length + 1)) (Str.ofString "places") d) fun _ => ret (Fl.next _)) _ = _
    rw [bnd_st e2, bnd_st (setAtt_ok (dn := S0.length) (fs := [(Str.ofString "order", .list ((pl s []).map enc))]) (app_get S0 _ 1) (app_get S0 _ 0) (by decide +kernel) (by simp))]
    have := app_set S0 [SObj.ns [(Str.ofString "order", .list ((pl s []).map enc))], .inst nmS S0.length, .tab true (tlb (pl s [])), .tab true []] 0 (.ns [(Str.ofString "places", .loc (S0.length + 3)), (Str.ofString "order", .list ((pl s []).map enc))])
    rw [Nat.add_zero] at this
    rw [this]; rfl
  unfold b_Search___init___2
  obtain ⟨σ', ⟨u, v, rest, rfl⟩, e3⟩ := fill_ok (callF C11 (k + 1)) s (S0.length + 1) S0.length (S0.length + 3) (pl s []) (pl_nodup s [] List.nodup_nil) (pl_dep s [] h8 (fun _ m => nomatch m)) (by lia) [(Str.ofString "places", .loc (S0.length + 3)), (Str.ofString "order", .list ((pl s []).map enc))] rfl
    (pl s []) [] [some (.loc (S0.length + 1)), some (enc s), none, none, none, none, none, none, none] (S0 ++ [.ns [(Str.ofString "places", .loc (S0.length + 3)), (Str.ofString "order", .list ((pl s []).map enc))], .inst nmS S0.length, .tab true (tlb (pl s [])), .tab true []]) rfl
    (app_get S0 _ 1) (app_get S0 _ 0) (by lia) (by lia) (app_get S0 _ 3) ⟨_, _, _, rfl⟩
  rw [app_set S0 _ 3] at e3
  refine (go_st (σ := some (.loc (S0.length + 1)) :: some (enc s) :: u :: v :: rest) (S1 := S0 ++ [.ns [(Str.ofString "places", .loc (S0.length + 3)), (Str.ofString "order", .list ((pl s []).map enc))], .inst nmS S0.length, .tab true (tlb (pl s [])), .tab true (ptab (pl s []) 0)]) ?_).trans ?_
  · show bnd (attrM C11 (.loc (S0.length + 1)) (Str.ofString "order")) (fun a => onFz a fun ds => forE _ 0 ds _) _ = _
    rw [bnd_st (att_ok (dn := S0.length) (fs := [(Str.ofString "places", .loc (S0.length + 3)), (Str.ofString "order", .list ((pl s []).map enc))]) (app_get S0 _ 1) (app_get S0 _ 0) (by decide +kernel) rfl)]
    exact e3
  unfold b_Search___init___0
  refine (go_st (σ := some (.loc (S0.length + 1)) :: some (enc s) :: u :: v :: rest) (S1 := made0 S0 (pl s [])) ?_).trans rfl
  have e4 : mkTab true (S0 ++ [SObj.ns [(Str.ofString "places", .loc (S0.length + 3)), (Str.ofString "order", .list ((pl s []).map enc))], .inst nmS S0.length, .tab true (tlb (pl s [])), .tab true (ptab (pl s []) 0)]) = .ok (.loc (S0.length + 4)) (S0 ++ [SObj.ns [(Str.ofString "places", .loc (S0.length + 3)), (Str.ofString "order", .list ((pl s []).map enc))], .inst nmS S0.length, .tab true (tlb (pl s [])), .tab true (ptab (pl s []) 0), .tab true []]) := by
    unfold mkTab; simp
  show bnd (mkTab true) (fun d => bnd (setAttrM C11 (.loc (S0.length + 1)) (Str.ofString "made") d) fun _ => ret (Fl.next _)) _ = _
  rw [bnd_st e4, bnd_st (setAtt_ok (dn := S0.length) (fs := [(Str.ofString "places", .loc (S0.length + 3)), (Str.ofString "order", .list ((pl s []).map enc))]) (app_get S0 _ 1) (app_get S0 _ 0) (by decide +kernel) (by simp))]
  exact congrArg (Out.ok (Fl.next (some (.loc (S0.length + 1)) :: some (enc s) :: u :: v :: rest))) (app_set S0 _ 0 _)
theorem new_ok (s : Sx) (k : Nat) (S0 : Store) (hk : s.dep <= k) (h8 : s.dep <= 8) (hz : s.sz <= 900) (h16 : (pl s []).length <= 16) :
    newS C11 (callF C11 (k + 2)) nmS (ret [enc s]) S0 = .ok (.loc (S0.length + 1)) (made0 S0 (pl s [])) := by
  show newM C11 (callF C11 (k + 2)) nmS [enc s] S0 = _
  unfold newM
  rw [if_pos (show methOk C11 nmS (Str.ofString "__init__") = true by decide +kernel)]
  rw [init_ok s k S0 hk h8 hz h16]
  rfl
theorem pl_uok (s : Sx) (h8 : s.dep <= 8) (h16 : (pl s []).length <= 16) : UOk (pl s []) :=
  ⟨pl_nodup s [] List.nodup_nil, pl_cl s [] (fun _ _ _ m => nomatch m), pl_dep s [] h8 (fun _ m => nomatch m), h16⟩
end L11
end Mine
end

section
namespace Mine
open PySem
structure OkG (n : Nat) (g : List Nat) : Prop where
  up : g.Pairwise (· < ·)
  lt : ∀ j ∈ g, j < n
noncomputable def gD (g : List Nat) : D := .tuple (g.map fun j => D.int (j : Nat))
noncomputable def kg (g : List Nat) : Kd := .tup (g.map fun j => Kd.int (j : Nat))
theorem kdIns_g : ∀ g : List Nat, kdIns (g.map fun j => D.int (j : Nat)) = some (g.map fun j => Kd.int (j : Nat))
  | [] => rfl
  | j :: g => by
    show (match kdIn (D.int (j : Nat)), kdIns (g.map fun j => D.int (j : Nat)) with
      | some k, some ks => some (k :: ks)
      | _, _ => none) = _
    rw [kdIns_g g]; rfl
theorem deps_g : ∀ g : List Nat, Kd.deps (g.map fun j => Kd.int (j : Nat)) = 0
  | [] => rfl
  | j :: g => by
    show max 0 (Kd.deps (g.map fun j => Kd.int (j : Nat))) = 0
    rw [deps_g g]; rfl
theorem key_g (g : List Nat) : tabKey true (gD g) = some (kg g) := by
  have e : kdOf (gD g) = some (kg g) := by
    show (kdIns (g.map fun j => D.int (j : Nat))).map Kd.tup = _
    rw [kdIns_g]; rfl
  unfold tabKey
  rw [e]
  dsimp only
  refine if_pos ?_
  show decide (Kd.deps (g.map fun j => Kd.int (j : Nat)) + 1 <= 8) = true
  rw [deps_g]; rfl
theorem Kd.tup.inj' {a b : List Kd} (h : Kd.tup a = Kd.tup b) : a = b := by cases h; rfl
theorem kg_inj : ∀ {a b : List Nat}, kg a = kg b -> a = b := by
  have go : ∀ {a b : List Nat}, (a.map fun j => Kd.int (j : Nat)) = (b.map fun j => Kd.int (j : Nat)) -> a = b := by
    intro a
    induction a with
    | nil => intro b h; cases b with
      | nil => rfl
      | cons y b => cases h
    | cons x a ih => intro b h; cases b with
      | nil => cases h
      | cons y b =>
        rw [List.map_cons, List.map_cons] at h
        have h1 := (List.cons.inj h).1
        have h2 := (List.cons.inj h).2
        have h3 : (x : Int) = (y : Int) := by cases h1; rfl
        rw [ih h2, Int.ofNat.inj h3]
  intro a b h
  exact go (Kd.tup.inj' h)
noncomputable def insN (j : Nat) : List Nat -> List Nat
  | [] => [j]
  | x :: r => if j <= x then j :: x :: r else x :: insN j r
theorem insN_perm (j : Nat) : ∀ g : List Nat, (insN j g).Perm (j :: g)
  | [] => .refl _
  | x :: r => by
    unfold insN
    split
    · exact .refl _
    · exact ((insN_perm j r).cons x).trans (.swap j x r)
theorem insN_mem {j : Nat} {g : List Nat} {y : Nat} : y ∈ insN j g ↔ y = j \/ y ∈ g := by rw [(insN_perm j g).mem_iff, List.mem_cons]
set_option tactic.hygienic true in
theorem insN_up {j : Nat} : ∀ {g : List Nat}, g.Pairwise (· < ·) -> j ∉ g -> (insN j g).Pairwise (· < ·)
  | [], _, _ => by unfold insN; simp
  | x :: r, h, hj => by
    refine ob02 (List.pairwise_cons.mp h) fun h1 h2 => ?_
    unfold insN
    have hjx : j ≠ x := fun e => hj (by rw [e]; exact List.mem_cons_self ..)
    split
    · rename_i q
      refine List.pairwise_cons.mpr ⟨fun z hz => ?_, h⟩
      rcases List.mem_cons.mp hz with rfl | hz
      · lia
      · have := h1 z hz; lia
    · rename_i q
      refine List.pairwise_cons.mpr ⟨fun z hz => ?_, insN_up h2 fun m => hj (List.mem_cons_of_mem _ m)⟩
      rcases insN_mem.mp hz with rfl | hz
      · lia
      · exact h1 z hz
theorem OkG.ins {n : Nat} {g : List Nat} {j : Nat} (h : OkG n g) (hj : j < n) (hn : j ∉ g) : OkG n (insN j g) :=
  ⟨insN_up h.up hn, fun y m => by rcases insN_mem.mp m with rfl | m; exact hj; exact h.lt y m⟩
theorem insN_len (j : Nat) (g : List Nat) : (insN j g).length = g.length + 1 := (insN_perm j g).length_eq
noncomputable def allG : Nat -> List (List Nat)
  | 0 => [[]]
  | n + 1 => allG n ++ (allG n).map (· ++ [n])
theorem allG_len : ∀ n, (allG n).length = 2 ^ n
  | 0 => rfl
  | n + 1 => by
    show (allG n ++ (allG n).map (· ++ [n])).length = _
    rw [List.length_append, List.length_map, allG_len n, Nat.pow_succ]; lia
theorem allG_mem : ∀ (n : Nat) (g : List Nat), OkG n g -> g ∈ allG n
  | 0, g, h => by
    cases g with
    | nil => exact List.mem_singleton.mpr rfl
    | cons a g => exact absurd (h.lt a (List.mem_cons_self ..)) (Nat.not_lt_zero _)
  | n + 1, g, h => by
    show g ∈ allG n ++ (allG n).map (· ++ [n])
    rcases List.eq_nil_or_concat g with rfl | ⟨l, a, e⟩
    · exact List.mem_append_left _ (allG_mem n [] ⟨List.Pairwise.nil, fun _ m => nomatch m⟩)
    · rw [List.concat_eq_append] at e
      rw [e]
      have hp := h.up
      rw [e, List.pairwise_append] at hp
      refine ob03 hp fun p1 _ p3 => ?_; clear hp
      have ha : a < n + 1 := h.lt a (by rw [e]; simp)
      have hl : ∀ j ∈ l, j < a := fun j m => p3 j m a (by simp)
      by_cases hn : a = n
      · refine List.mem_append_right _ (List.mem_map.mpr ⟨l, allG_mem n l ⟨p1, fun j m => hn ▸ hl j m⟩, by rw [hn]⟩)
      · refine List.mem_append_left _ (allG_mem n _ ⟨?_, fun j m => ?_⟩)
        · rw [<- e]; exact h.up
        · rcases List.mem_append.mp m with m | m
          · have := hl j m; lia
          · rw [List.mem_singleton.mp m]; lia
theorem nodup_leG {K : List (List Nat)} : ∀ {L : List (List Nat)}, L.Nodup -> (∀ y ∈ L, y ∈ K) -> L.length <= K.length := by
  intro L hn hs
  induction L generalizing K with
  | nil => exact Nat.zero_le _
  | cons a L ih =>
    refine ob02 (List.nodup_cons.mp hn) fun h1 h2 => ?_
    have ha := hs a (List.mem_cons_self ..)
    have := ih (K := K.erase a) h2 fun y hy => (List.mem_erase_of_ne (show y ≠ a from fun e => h1 (e ▸ hy))).mpr (hs y (List.mem_cons_of_mem _ hy))
    rw [List.length_erase_of_mem ha] at this
    have : 0 < K.length := List.length_pos_of_mem ha
    show L.length + 1 <= _
    lia
noncomputable def gs (U : List Sx) (g : List Nat) : List Sx := g.filterMap fun j => U[j]?
theorem gs_mem {U : List Sx} {g : List Nat} {x : Sx} : x ∈ gs U g ↔ ∃ j ∈ g, U[j]? = some x := by
  unfold gs; rw [List.mem_filterMap]
theorem gs_U {U : List Sx} {g : List Nat} : ∀ x ∈ gs U g, x ∈ U := fun x m => let ⟨_, _, e⟩ := gs_mem.mp m; List.mem_of_getElem? e
theorem gs_ins {U : List Sx} {g : List Nat} {j : Nat} {p r : Sx} (hj : U[j]? = some p) : Der U (gs U (insN j g)) r ↔ Der U (p :: gs U g) r := by
  constructor
  · refine fun d => d.weak fun x m => ?_
    refine ob12 (gs_mem.mp m) fun y hy e => ?_
    rcases insN_mem.mp hy with rfl | hy
    · rw [hj] at e; cases e; exact List.mem_cons_self ..
    · exact List.mem_cons_of_mem _ (gs_mem.mpr ⟨y, hy, e⟩)
  · refine fun d => d.weak fun x m => ?_
    rcases List.mem_cons.mp m with rfl | m
    · exact gs_mem.mpr ⟨j, insN_mem.mpr (.inl rfl), hj⟩
    · refine ob12 (gs_mem.mp m) fun y hy e => ?_
      exact gs_mem.mpr ⟨y, insN_mem.mpr (.inr hy), e⟩
noncomputable def tI (f : List (Nat × D)) : List (Kd × D) := f.map fun p => (Kd.int (p.1 : Nat), p.2)
theorem int_inj {a b : Nat} (h : Kd.int (a : Nat) = Kd.int (b : Nat)) : a = b := by
  have h3 : (a : Int) = (b : Int) := by cases h; rfl
  exact Int.ofNat.inj h3
theorem tI_some (f : List (Nat × D)) (j : Nat) : (tabAt (tI f) (.int (j : Nat))).isSome = decide (j ∈ f.map (·.1)) := by
  induction f with
  | nil => rfl
  | cons p f ih =>
    show (tabAt ((Kd.int (p.1 : Nat), p.2) :: tI f) _).isSome = _
    rw [tabAt_cons]
    by_cases h : p.1 = j
    · rw [if_pos (by show Kd.int (p.1 : Nat) = _; rw [h])]
      simp [h]
    · rw [if_neg fun e => h (int_inj e), ih]
      have : ¬ j = p.1 := fun e => h e.symm
      simp [this]
theorem tI_noneK (f : List (Nat × D)) : tabAt (tI f) .none = none := by
  induction f with
  | nil => rfl
  | cons p f ih =>
    show tabAt ((Kd.int (p.1 : Nat), p.2) :: tI f) _ = _
    rw [tabAt_cons, if_neg fun e => by cases e]; exact ih
theorem tI_none {f : List (Nat × D)} {j : Nat} (h : j ∉ f.map (·.1)) : tabAt (tI f) (.int (j : Nat)) = none := by
  have := tI_some f j
  rw [decide_eq_false h] at this
  cases e : tabAt (tI f) (.int (j : Nat)) with
  | none => rfl
  | some d => rw [e] at this; cases this
theorem tI_put {f : List (Nat × D)} {j : Nat} (h : j ∉ f.map (·.1)) (d : D) : tabPut (tI f) (.int (j : Nat)) d = tI (f ++ [(j, d)]) := by
  rw [put_new (tI_none h)]; unfold tI; rw [List.map_append]; rfl
theorem key_i (j : Nat) : tabKey false (.int (j : Nat)) = some (.int (j : Nat)) := rfl
theorem key_no : tabKey false .none = some .none := rfl
theorem tI_len (f : List (Nat × D)) : (tI f).length = f.length := by unfold tI; rw [List.length_map]
noncomputable def cD (c : List Nat × Nat) : D := .tuple [gD c.1, .int (c.2 : Nat)]
noncomputable def CmP (U : List Sx) (g ks : List Nat) (c : List Nat × Nat) : Prop := (c.1 = g /\ c.2 ∈ ks) \/ ∃ k, k < U.length /\ k ∉ g /\ c.1 = insN k g /\ ∃ s, U[c.2]? = some s /\ Der U (gs U c.1) s
noncomputable def GoodE (U : List Sx) (g ks : List Nat) (d : D) : Prop := ∃ (r : Str) (cs : List (List Nat × Nat)), d = .tuple [.str r, .tuple (cs.map cD)] /\ cs.length <= 3 /\ ∀ c ∈ cs, CmP U g ks c
noncomputable def gvD : D := .tuple [.str (Str.ofString "given"), .tuple []]
noncomputable def GvOk (U : List Sx) (g : List Nat) (f : List (Nat × D)) : Prop := ∃ r : List (Nat × D), f = (g.map fun k => (k, gvD)) ++ r /\ ∀ l p q, r = l ++ p :: q -> GoodE U g (g ++ l.map (·.1)) p.2
theorem GvOk.more {U : List Sx} {g : List Nat} {f : List (Nat × D)} (h : GvOk U g f) {k : Nat} {d : D} (hd : GoodE U g (f.map (·.1)) d) : GvOk U g (f ++ [(k, d)]) := by
  refine ob12 h fun r er1 hr => ?_; clear h; subst er1
  refine mk12 (r ++ [(k, d)]) (by rw [List.append_assoc]) (fun l p q e => ?_)
  rcases List.eq_nil_or_concat q with rfl | ⟨q', z, rfl⟩
  · have h1 : l ++ [p] = r ++ [(k, d)] := e.symm
    refine ob02 (List.append_inj' h1 rfl) fun h2 h3 => ?_
    cases h3; subst h2
    rw [List.map_append, List.map_map] at hd
    have : g.map ((fun x : Nat × D => x.1) ∘ fun k => (k, gvD)) = g := List.map_id' g
    rw [this] at hd
    exact hd
  · rw [List.concat_eq_append] at e
    have h1 : l ++ p :: q' ++ [z] = r ++ [(k, d)] := by rw [List.append_assoc]; exact e.symm
    refine ob02 (List.append_inj' h1 rfl) fun h2 h3 => ?_
    exact hr l p q' h2.symm
theorem CmP.here {U : List Sx} {g ks : List Nat} {k : Nat} (h : k ∈ ks) : CmP U g ks (g, k) := .inl ⟨rfl, h⟩
theorem CmP.up {U : List Sx} {g ks : List Nat} {j k : Nat} {s : Sx} (h1 : j < U.length) (h2 : j ∉ g) (h3 : U[k]? = some s) (h4 : Der U (gs U (insN j g)) s) : CmP U g ks (insN j g, k) := .inr ⟨j, h1, h2, rfl, s, h3, h4⟩
theorem good1 {U : List Sx} {g ks : List Nat} {r : Str} {a : List Nat × Nat} (h : CmP U g ks a) : GoodE U g ks (.tuple [.str r, .tuple [cD a]]) := mk23 r [a] rfl (by simp) (fun c hc => by rw [List.mem_singleton.mp hc]; exact h)
theorem good2 {U : List Sx} {g ks : List Nat} {r : Str} {a b : List Nat × Nat} (h : CmP U g ks a) (h' : CmP U g ks b) : GoodE U g ks (.tuple [.str r, .tuple [cD a, cD b]]) := ⟨r, [a, b], rfl, by simp, fun c hc => by
  rcases List.mem_cons.mp hc with rfl | hc
  · exact h
  · rw [List.mem_singleton.mp hc]; exact h'⟩
theorem good3 {U : List Sx} {g ks : List Nat} {r : Str} {a b d : List Nat × Nat} (h : CmP U g ks a) (h' : CmP U g ks b) (h'' : CmP U g ks d) : GoodE U g ks (.tuple [.str r, .tuple [cD a, cD b, cD d]]) := ⟨r, [a, b, d], rfl, by simp, fun c hc => by
  rcases List.mem_cons.mp hc with rfl | hc
  · exact h
  · rcases List.mem_cons.mp hc with rfl | hc
    · exact h'
    · rw [List.mem_singleton.mp hc]; exact h''⟩
structure TabOk (S : Store) (t : Nat) (U : List Sx) (g : List Nat) : Prop where
  ex : ∃ f : List (Nat × D), S[t]? = some (.tab false (tI f)) /\ (∀ j s, U[j]? = some s -> (j ∈ f.map (·.1) ↔ Der U (gs U g) s)) /\ GvOk U g f /\ (f.map (·.1)).Nodup /\ ∀ k ∈ f.map (·.1), k < U.length
noncomputable def tM (m : List (List Nat × Nat)) : List (Kd × D) := m.map fun p => (kg p.1, D.loc p.2)
open Classical in
theorem tM_at (m : List (List Nat × Nat)) (g : List Nat) : (∀ d, tabAt (tM m) (kg g) = some d -> ∃ t, (g, t) ∈ m /\ d = .loc t) /\ (tabAt (tM m) (kg g) = none -> g ∉ m.map (·.1)) := by
  induction m with
  | nil => exact ⟨fun d e => (by cases e), fun _ h => nomatch h⟩
  | cons p m ih =>
    have e0 : tabAt (tM (p :: m)) (kg g) = if kg p.1 = kg g then some (D.loc p.2) else tabAt (tM m) (kg g) := tabAt_cons _ _ _
    rw [e0]
    by_cases h : p.1 = g
    · rw [if_pos (by rw [h])]
      exact ⟨fun d e => ⟨p.2, by rw [<- h]; exact List.mem_cons_self .., (Option.some.inj e).symm⟩, fun e => (by cases e)⟩
    · rw [if_neg fun e => h (kg_inj e)]
      refine ⟨fun d e => ?_, fun e m' => ?_⟩
      · refine ob12 (ih.1 d e) fun t h1 h2 => ?_
        exact mk12 t (List.mem_cons_of_mem _ h1) h2
      · rcases List.mem_cons.mp m' with q | q
        · exact h q.symm
        · exact ih.2 e q
structure MdOk (S : Store) (U : List Sx) (m : List (List Nat × Nat)) : Prop where
  nd : (m.map (·.1)).Nodup
  ok : ∀ p ∈ m, OkG U.length p.1 /\ TabOk S p.2 U p.1
theorem MdOk.len {S : Store} {U : List Sx} {m : List (List Nat × Nat)} (h : MdOk S U m) (hU : U.length <= 16) : m.length <= 65536 := by
  have h1 := nodup_leG (K := allG U.length) h.nd fun y hy => by
    refine ob12 (List.mem_map.mp hy) fun p hp er1 => ?_; subst er1
    exact allG_mem _ _ (h.ok p hp).1
  rw [allG_len, List.length_map] at h1
  have h2 : 2 ^ U.length <= 2 ^ 16 := Nat.pow_le_pow_right (by decide) hU
  have h3 : (2 : Nat) ^ 16 = 65536 := by decide
  lia
end Mine
end

section
namespace Mine
open PySem
theorem insI_perm (x : Int) : ∀ l : List Int, (insI x l).Perm (x :: l)
  | [] => .refl _
  | y :: r => by
    unfold insI
    split
    · exact .refl _
    · exact ((insI_perm x r).cons y).trans (.swap x y r)
theorem sortI_perm : ∀ l : List Int, (sortI l).Perm l
  | [] => .refl _
  | x :: r => (insI_perm x _).trans ((sortI_perm r).cons x)
set_option tactic.hygienic true in
theorem insI_sorted (x : Int) : ∀ l : List Int, l.Pairwise (· <= ·) -> (insI x l).Pairwise (· <= ·)
  | [], _ => by unfold insI; simp
  | y :: r, h => by
    unfold insI
    refine ob02 (List.pairwise_cons.mp h) fun h1 h2 => ?_
    split
    · rename_i q
      refine List.pairwise_cons.mpr ⟨fun z hz => ?_, h⟩
      rcases List.mem_cons.mp hz with rfl | hz
      · exact q
      · exact Int.le_trans q (h1 z hz)
    · rename_i q
      refine List.pairwise_cons.mpr ⟨fun z hz => ?_, insI_sorted x r h2⟩
      rcases List.mem_cons.mp ((insI_perm x r).mem_iff.mp hz) with rfl | hz
      · lia
      · exact h1 z hz
theorem sortI_sorted : ∀ l : List Int, (sortI l).Pairwise (· <= ·)
  | [] => by unfold sortI; simp
  | x :: r => insI_sorted x _ (sortI_sorted r)
theorem sortedI_unique : ∀ {l l' : List Int}, l.Perm l' -> l.Pairwise (· <= ·) -> l'.Pairwise (· <= ·) -> l = l'
  | [], l', h, _, _ => (List.nil_perm.mp h).symm
  | x :: r, [], h, _, _ => by simpa using h.length_eq
  | x :: r, y :: r', h, a, b => by
    refine ob02 (List.pairwise_cons.mp a) fun a1 a2 => ?_
    refine ob02 (List.pairwise_cons.mp b) fun b1 b2 => ?_
    have hxy : x = y := by
      have hx : x ∈ y :: r' := h.mem_iff.mp (List.mem_cons_self ..)
      have hy : y ∈ x :: r := h.mem_iff.mpr (List.mem_cons_self ..)
      rcases List.mem_cons.mp hx with q | q
      · exact q
      · rcases List.mem_cons.mp hy with q' | q'
        · exact q'.symm
        · exact Int.le_antisymm (a1 y q') (b1 x q)
    subst hxy
    rw [sortedI_unique (List.perm_cons x |>.mp h) a2 b2]
end Mine
end

section
namespace Mine
open PySem
theorem pys_g : ∀ g : List Nat, D.pys (g.map fun j => D.int (j : Nat)) = some (g.map fun j => PyData.int (j : Nat))
  | [] => rfl
  | j :: g => by
    show (match D.py (D.int (j : Nat)), D.pys (g.map fun j => D.int (j : Nat)) with
      | some p, some ps => some (p :: ps)
      | _, _ => none) = _
    rw [pys_g g]; rfl
theorem depthAll_g : ∀ g : List Nat, PyData.depthAll (g.map fun j => PyData.int (j : Nat)) = 0
  | [] => rfl
  | j :: g => by
    show max 0 (PyData.depthAll (g.map fun j => PyData.int (j : Nat))) = 0
    rw [depthAll_g g]; rfl
theorem any_g (g : List Nat) (j : Nat) : ((g.map fun j => PyData.int (j : Nat)).any fun p => PyData.eqv p (.int (j : Nat))) = decide (j ∈ g) := by
  induction g with
  | nil => rfl
  | cons x g ih =>
    rw [List.map_cons, List.any_cons, ih]
    show (((x : Nat) : Int) == ((j : Nat) : Int) || decide (j ∈ g)) = _
    by_cases h : x = j
    · subst h; simp
    · have h1 : (((x : Nat) : Int) == ((j : Nat) : Int)) = false := by rw [beq_eq_false_iff_ne]; lia
      have h2 : ¬ j = x := fun e => h e.symm
      rw [h1]; simp [h2]
theorem in_g (g : List Nat) (j : Nat) : cmpM .In (.int (j : Nat)) (gD g) = ret (decide (j ∈ g)) := by
  show inM (.int (j : Nat)) (.tuple (g.map fun j => D.int (j : Nat))) = _
  funext S
  show inL (g.map fun j => D.int (j : Nat)) (.int (j : Nat)) S = _
  unfold inL
  rw [pys_g]
  show optM (anyEq (g.map fun j => PyData.int (j : Nat)) (.int (j : Nat))) S = _
  unfold anyEq
  rw [if_pos (by rw [depthAll_g]; rfl), any_g]; rfl
theorem intsOf_g : ∀ (g : List Nat) (j : Nat), intsOf ((g.map fun j => D.int (j : Nat)) ++ [D.int (j : Nat)]) = some ((g.map fun j => ((j : Nat) : Int)) ++ [(j : Int)])
  | [], _ => rfl
  | x :: g, j => by
    show (match intsOf ((g.map fun j => D.int (j : Nat)) ++ [D.int (j : Nat)]) with
      | some bs => some (((x : Nat) : Int) :: bs)
      | none => none) = _
    rw [intsOf_g g j]; rfl
theorem up_le {g : List Nat} (h : g.Pairwise (· < ·)) : (g.map fun j => ((j : Nat) : Int)).Pairwise (· <= ·) := by
  rw [List.pairwise_map]
  exact h.imp fun h => by lia
theorem sort_g {g : List Nat} {j : Nat} (h : g.Pairwise (· < ·)) (hj : j ∉ g) : sortI ((g.map fun j => ((j : Nat) : Int)) ++ [(j : Int)]) = (insN j g).map fun j => ((j : Nat) : Int) := by
  refine sortedI_unique ?_ (sortI_sorted _) (up_le (insN_up h hj))
  refine (sortI_perm _).trans ?_
  have h1 : ((g.map fun j => ((j : Nat) : Int)) ++ [(j : Int)]).Perm ((j :: g).map fun j => ((j : Nat) : Int)) := by
    rw [List.map_cons]
    exact List.perm_append_comm
  exact h1.trans ((insN_perm j g).symm.map _)
namespace L11
theorem c_with (n : Nat) (a b : D) : callF C11 (n + 1) (Str.ofString "with_one") [a, b] = s_with_one (callF C11 n) a b := by kernel_rfl
theorem with_ok (n : Nat) {g : List Nat} {j : Nat} (hg : g.Pairwise (· < ·)) (hj : j ∉ g) (hl : g.length <= 16) (S : Store) : callF C11 (n + 1) (Str.ofString "with_one") [gD g, .int (j : Nat)] S = .ok (gD (insN j g)) S := by
  rw [c_with]
  show finM (b_with_one_2 (callF C11 n) [some (gD g), some (.int (j : Nat)), none, none, none]) S = _
  unfold b_with_one_2
  refine (fin_if (b := false) (S1 := S) ?_).trans ?_
  · show cmpM .In (.int (j : Nat)) (gD g) S = _
    rw [in_g, decide_eq_false hj]; rfl
  rw [if_neg Bool.false_ne_true, fin_nxt]
  unfold b_with_one_0
  refine fin_ret_st ?_
  have e1 : bin0 .Add (.list (g.map fun j => D.int (j : Nat))) (.list [D.int (j : Nat)]) = ret (.list ((g.map fun j => D.int (j : Nat)) ++ [D.int (j : Nat)])) := by
    funext S
    show (if ((g.map fun j => D.int (j : Nat)).length + 1 <= sizeLine) then mkList cfg0 pos0 ((g.map fun j => D.int (j : Nat)) ++ [D.int (j : Nat)]) S else .stuck) = _
    rw [if_pos (by rw [List.length_map]; exact Nat.le_trans (Nat.succ_le_succ hl) (by decide))]; rfl
  have e2 : bSortB.run false [.list ((g.map fun j => D.int (j : Nat)) ++ [D.int (j : Nat)])] = ret (.list ((insN j g).map fun j => D.int (j : Nat))) := by
    funext S
    show (match intsOf ((g.map fun j => D.int (j : Nat)) ++ [D.int (j : Nat)]) with
      | some ys => if ys.length < 64 then mkL false ((sortI ys).map .int) else stk
      | none => (match strsOf ((g.map fun j => D.int (j : Nat)) ++ [D.int (j : Nat)]) with
        | some ys => if ys.length < 64 then mkL false ((sortS ys).map .str) else stk
        | none => stk)) S = _
    rw [intsOf_g]
    dsimp only
    rw [if_pos (by rw [List.length_append, List.length_map]; show g.length + 1 < 64; lia), sort_g hg hj, List.map_map]; rfl
  show bnd (bnd (bnd (bnd (bin0 .Add (.list (g.map fun j => D.int (j : Nat))) (.list [D.int (j : Nat)])) fun d => bnd (ret []) fun ds => ret (d :: ds)) fun ds => bSortB.run false ds) fun d => bnd (ret []) fun ds => ret (d :: ds)) (fun ds => bf0 .tuple ds) S = _
  rw [e1]
  show bnd (bnd (bSortB.run false [.list ((g.map fun j => D.int (j : Nat)) ++ [D.int (j : Nat)])]) fun d => bnd (ret []) fun ds => ret (d :: ds)) (fun ds => bf0 .tuple ds) S = _
  rw [e2]; rfl
end L11
end Mine
end

section
namespace Mine
open PySem
namespace L11
structure Fr (L : Nat) (S S' : Store) (mn : Nat) (m m' : List (List Nat × Nat)) : Prop where
  keep : ∀ j, j < S.length -> j ≠ mn -> S'[j]? = S[j]?
  len : S.length <= S'.length
  new : ∀ p ∈ m', p ∈ m \/ (S.length <= p.2 /\ L <= p.1.length)
  old : ∀ p ∈ m, p ∈ m'
theorem Fr.refl (L : Nat) (S : Store) (mn : Nat) (m : List (List Nat × Nat)) : Fr L S S mn m m := ⟨fun _ _ _ => rfl, Nat.le_refl _, fun _ h => .inl h, fun _ h => h⟩
theorem Fr.trans {L : Nat} {S S' S'' : Store} {mn : Nat} {m m' m'' : List (List Nat × Nat)} (a : Fr L S S' mn m m') (b : Fr L S' S'' mn m' m'') : Fr L S S'' mn m m'' :=
  ⟨fun j h n => (b.keep j (Nat.lt_of_lt_of_le h a.len) n).trans (a.keep j h n), Nat.le_trans a.len b.len, fun p h => by
    rcases b.new p h with h | h
    · exact a.new p h
    · exact .inr ⟨Nat.le_trans a.len h.1, h.2⟩, fun p h => b.old p (a.old p h)⟩
structure St (S : Store) (i dn pn mn : Nat) (U : List Sx) (m : List (List Nat × Nat)) : Prop where
  sea : Sea S i dn pn mn U (tM m)
  md : MdOk S U m
structure Fd (S : Store) (f mn : Nat) (m : List (List Nat × Nat)) (fd : List (Nat × D)) : Prop where
  at' : S[f]? = some (.tab false (tI fd))
  ne : f ≠ mn
  off : ∀ p ∈ m, p.2 ≠ f
theorem get_lt {S : Store} {n : Nat} {o : SObj} (h : S[n]? = some o) : n < S.length := (List.getElem?_eq_some_iff.mp h).1
theorem Fd.step {S S' : Store} {f mn : Nat} {m m' : List (List Nat × Nat)} {fd : List (Nat × D)} {L : Nat} (h : Fd S f mn m fd) (x : Fr L S S' mn m m') : Fd S' f mn m' fd := by
  have hl := get_lt h.at'
  refine ⟨(x.keep f hl h.ne).trans h.at', h.ne, fun p hp => ?_⟩
  rcases x.new p hp with q | q
  · exact h.off p q
  · have := q.1; lia
noncomputable def Th (n : Nat) (U : List Sx) (g : List Nat) : Prop := ∀ S i dn pn mn m, St S i dn pn mn U m -> ∃ S' m' t, callF C11 n (mname nmS (Str.ofString "theory_from")) [.loc i, gD g] S = .ok (.loc t) S' /\ St S' i dn pn mn U m' /\ TabOk S' t U g /\ Fr g.length S S' mn m m' /\ (g, t) ∈ m'
theorem in_fd {S : Store} {f mn : Nat} {m : List (List Nat × Nat)} {fd : List (Nat × D)} (h : Fd S f mn m fd) (k : Nat) : cmpM .In (.int (k : Nat)) (.loc f) S = .ok (decide (k ∈ fd.map (·.1))) S := by
  rw [in_tab h.at' (key_i k), tI_some]
theorem nin_fd {S : Store} {f mn : Nat} {m : List (List Nat × Nat)} {fd : List (Nat × D)} (h : Fd S f mn m fd) (k : Nat) : cmpM .NotIn (.int (k : Nat)) (.loc f) S = .ok (!decide (k ∈ fd.map (·.1))) S := by
  rw [nin_tab h.at' (key_i k), tI_some]
theorem gs_idx {U : List Sx} (hn : U.Nodup) {l : List Nat} {k : Nat} {p : Sx} (hk : U[k]? = some p) : p ∈ gs U l ↔ k ∈ l := by
  rw [gs_mem]
  constructor
  · rintro ⟨j, hj, e⟩
    have : j = k := by
      have h1 := List.getElem?_eq_some_iff.mp e
      have h2 := List.getElem?_eq_some_iff.mp hk
      exact (List.getElem?_inj h1.1 hn).mp (e.trans hk.symm)
    rw [<- this]; exact hj
  · exact fun h => mk12 k h hk
theorem idx_of {U : List Sx} {p : Sx} (h : p ∈ U) : ∃ k : Nat, U[k]? = some p := List.mem_iff_getElem?.mp h
noncomputable def Res (U : List Sx) (g ks : List Nat) (r : D) (P : Prop) : Prop := (r = .none /\ ¬ P) \/ (GoodE U g ks r /\ P)
section
variable {S : Store} {i dn pn mn f : Nat} {U : List Sx} {m : List (List Nat × Nat)} {fd : List (Nat × D)} {g : List Nat}
theorem call_th (X : St S i dn pn mn U m) {n : Nat} (T : Th n U g) : ∃ S' m' t, oMeth C11 (callF C11 n) (Str.ofString "theory_from") (ret (.loc i)) (ret [gD g]) S = .ok (.loc t) S' /\ St S' i dn pn mn U m' /\ TabOk S' t U g /\ Fr g.length S S' mn m m' /\ (g, t) ∈ m' := by
  refine ob32 (T S i dn pn mn m X) fun S' m' t e h => ?_
  refine mk32 S' m' t ?_ h
  rw [meth_ok _ _ X.sea.inst X.sea.ns (by decide +kernel) rfl]
  exact calm_st e
theorem ask_th (X : St S i dn pn mn U m) {n : Nat} (T : Th n U g) {k : Nat} {s : Sx} (hk : U[k]? = some s) : ∃ S' m' b, cmpS .In (ret (.int (k : Nat))) (oMeth C11 (callF C11 n) (Str.ofString "theory_from") (ret (.loc i)) (ret [gD g])) S = .ok b S' /\ (b = true ↔ Der U (gs U g) s) /\ St S' i dn pn mn U m' /\ Fr g.length S S' mn m m' := by
  obtain ⟨S', m', t, e, X', ⟨fd, h1, h2, _⟩, x, _⟩ := call_th X T
  refine mk34 S' m' (decide (k ∈ fd.map (·.1))) ?_ (by rw [decide_eq_true_iff]; exact h2 k s hk) X' x
  show bnd (oMeth C11 (callF C11 n) (Str.ofString "theory_from") (ret (.loc i)) (ret [gD g])) (fun b => cmpM .In (.int (k : Nat)) b) S = _
  rw [bnd_st e, in_tab h1 (key_i k), tI_some]
theorem c_made (n : Nat) (a b c d : D) : callF C11 (n + 1) (mname nmS (Str.ofString "how_made")) [a, b, c, d] = s_Search_how_made (callF C11 n) a b c d := by kernel_rfl
theorem kind_is (X : St S i dn pn mn U m) (n : Nat) {j : Nat} {s : Sx} (hj : U[j]? = some s) (w : Str) : cmpS .Eq (oMeth C11 (callF C11 (n + 1)) (Str.ofString "kind") (ret (.loc i)) (ret [.int (j : Nat)])) (ret (.str w)) S = .ok (hdS s == w) S := by
  show bnd (oMeth C11 (callF C11 (n + 1)) (Str.ofString "kind") (ret (.loc i)) (ret [.int (j : Nat)])) (fun a => eqM a (.str w)) S = _
  rw [bnd_st (X.sea.kind n hj), eqM_str]; rfl
theorem made_ok (X : St S i dn pn mn U m) (hU : UOk U) (hg : OkG U.length g) (F : Fd S f mn m fd) (hb : ∀ x ∈ g, x ∈ fd.map (·.1)) (n : Nat) {j : Nat} {w : W3} {p q : Sx} (hj : U[j]? = some (.bin w p q)) (T : ∀ k, k < U.length -> k ∉ g -> Th (n + 1) U (insN k g)) :
    ∃ S' m' r, callF C11 (n + 2) (mname nmS (Str.ofString "how_made")) [.loc i, gD g, .loc f, .int (j : Nat)] S = .ok r S' /\ Res U g (fd.map (·.1)) r (MadeP U (gs U g) (gs U (fd.map (·.1))) (.bin w p q)) /\ St S' i dn pn mn U m' /\ Fr (g.length + 1) S S' mn m m' := by
  have hm := hU.cl w p q (List.mem_of_getElem? hj)
  refine ob11 (idx_of hm.1) fun k1 hk1 => ?_
  refine ob11 (idx_of hm.2) fun k2 hk2 => ?_
  have i1 := gs_idx (l := fd.map (·.1)) hU.nd hk1
  have i2 := gs_idx (l := fd.map (·.1)) hU.nd hk2
  have hgl : g.length <= 16 := by
    have h1 : g.Nodup := hg.up.imp fun h => Nat.ne_of_lt h
    have h2 : g.length <= U.length := by
      have := h1.length_le_of_subset (l₂ := List.range U.length) fun x hx => List.mem_range.mpr (hg.lt x hx)
      simpa using this
    exact Nat.le_trans h2 hU.len
  rw [c_made]
  show ∃ S' m' r, finM (b_Search_how_made_18 (callF C11 (n + 1)) [some (.loc i), some (gD g), some (.loc f), some (.int (j : Nat)), none, none, none, none]) S = .ok r S' /\ _
  have e0 : finM (b_Search_how_made_18 (callF C11 (n + 1)) [some (.loc i), some (gD g), some (.loc f), some (.int (j : Nat)), none, none, none, none]) S = finM (b_Search_how_made_16 (callF C11 (n + 1)) [some (.loc i), some (gD g), some (.loc f), some (.int (j : Nat)), some (.int (k1 : Nat)), some (.int (k2 : Nat)), none, none]) S := by
    unfold b_Search_how_made_18
    refine (fin_put (d := .int (k1 : Nat)) (S1 := S) (X.sea.half1 hU n hj hk1)).trans ?_
    unfold b_Search_how_made_17
    exact fin_put (d := .int (k2 : Nat)) (S1 := S) (X.sea.half2 hU n hj hk2)
  rw [e0]
  unfold b_Search_how_made_16
  cases w with
  | a =>
    have e1 : ∀ (x : EM Fl) (k : Sg -> EM Fl) (y : EM Fl), finM (seqM (ifM (cmpS .Eq (oMeth C11 (callF C11 (n + 1)) (Str.ofString "kind") (ret (.loc i)) (ret [.int (j : Nat)])) (ret (.str (Str.ofString "and")))) x y) k) S = finM (seqM x k) S := fun x k y => by
      refine (fin_if (b := true) (S1 := S) ((kind_is X n hj _).trans rfl)).trans ?_
      rw [if_pos rfl]
    rw [show finM (seqM (ifM (cmpS .Eq (oMeth C11 (callF C11 (n + 1)) (Str.ofString "kind") (lk [some (.loc i), some (gD g), some (.loc f), some (.int (j : Nat)), some (.int (k1 : Nat)), some (.int (k2 : Nat)), none, none] 0) (consM (lk [some (.loc i), some (gD g), some (.loc f), some (.int (j : Nat)), some (.int (k1 : Nat)), some (.int (k2 : Nat)), none, none] 3) (ret []))) (ret (.str (Str.ofString "and")))) _ _) _) S = _ from e1 _ _ _]
    unfold b_Search_how_made_15
    rw [fin_seq]
    by_cases h : k1 ∈ fd.map (·.1) /\ k2 ∈ fd.map (·.1)
    · refine mk34 S m (.tuple [.str (Str.ofString "both"), .tuple [.tuple [gD g, .int (k1 : Nat)], .tuple [gD g, .int (k2 : Nat)]]]) ((fin_if (b := true) (S1 := S) ?_).trans ?_) (.inr ⟨good2 (a := (g, k1)) (b := (g, k2)) (.here h.1) (.here h.2), i1.mpr h.1, i2.mpr h.2⟩) X (Fr.refl ..)
      · show andM (cmpM .In (.int (k1 : Nat)) (.loc f)) (andM (cmpM .In (.int (k2 : Nat)) (.loc f)) (ret true)) S = _
        unfold andM
        rw [bnd_st (in_fd F k1), decide_eq_true h.1]
        dsimp only
        rw [bnd_st (in_fd F k2), decide_eq_true h.2]; rfl
      · rw [if_pos rfl]; rfl
    · refine mk34 S m .none ((fin_if (b := false) (S1 := S) ?_).trans ?_) (.inl ⟨rfl, fun z => h ⟨i1.mp z.1, i2.mp z.2⟩⟩) X (Fr.refl ..)
      · show andM (cmpM .In (.int (k1 : Nat)) (.loc f)) (andM (cmpM .In (.int (k2 : Nat)) (.loc f)) (ret true)) S = _
        unfold andM
        rw [bnd_st (in_fd F k1)]
        by_cases h1 : k1 ∈ fd.map (·.1)
        · rw [decide_eq_true h1]
          dsimp only
          rw [bnd_st (in_fd F k2), decide_eq_false fun h2 => h ⟨h1, h2⟩]; rfl
        · rw [decide_eq_false h1]; rfl
      · rw [if_neg Bool.false_ne_true]; rfl
  | o =>
    refine mk34 S m (if k1 ∈ fd.map (·.1) then .tuple [.str (Str.ofString "one"), .tuple [.tuple [gD g, .int (k1 : Nat)]]] else if k2 ∈ fd.map (·.1) then .tuple [.str (Str.ofString "other"), .tuple [.tuple [gD g, .int (k2 : Nat)]]] else .none) ?_ ?_ X (Fr.refl ..)
    · refine (fin_if (b := false) (S1 := S) ((kind_is X n hj _).trans rfl)).trans ?_
      rw [if_neg Bool.false_ne_true, fin_nxt]
      unfold b_Search_how_made_12
      refine (fin_if (b := true) (S1 := S) ((kind_is X n hj _).trans rfl)).trans ?_
      rw [if_pos rfl]
      unfold b_Search_how_made_11
      rw [fin_seq]
      refine (fin_if (S1 := S) (in_fd F k1)).trans ?_
      by_cases h1 : k1 ∈ fd.map (·.1)
      · rw [if_pos (decide_eq_true h1), if_pos h1]; rfl
      · rw [if_neg (by rw [decide_eq_false h1]; exact Bool.false_ne_true), if_neg h1, fin_nxt]
        unfold b_Search_how_made_9
        rw [fin_seq]
        refine (fin_if (S1 := S) (in_fd F k2)).trans ?_
        by_cases h2 : k2 ∈ fd.map (·.1)
        · rw [if_pos (decide_eq_true h2), if_pos h2]; rfl
        · rw [if_neg (by rw [decide_eq_false h2]; exact Bool.false_ne_true), if_neg h2]; rfl
    · by_cases h1 : k1 ∈ fd.map (·.1)
      · rw [if_pos h1]; exact .inr ⟨good1 (a := (g, k1)) (.here h1), .inl (i1.mpr h1)⟩
      · rw [if_neg h1]
        by_cases h2 : k2 ∈ fd.map (·.1)
        · rw [if_pos h2]; exact .inr ⟨good1 (a := (g, k2)) (.here h2), .inr (i2.mpr h2)⟩
        · rw [if_neg h2]; exact .inl ⟨rfl, fun z => z.elim (fun z => h1 (i1.mp z)) fun z => h2 (i2.mp z)⟩
  | t =>
    have e6 : finM (seqM (ifM (cmpS .Eq (oMeth C11 (callF C11 (n + 1)) (Str.ofString "kind") (lk [some (.loc i), some (gD g), some (.loc f), some (.int (j : Nat)), some (.int (k1 : Nat)), some (.int (k2 : Nat)), none, none] 0) (consM (lk [some (.loc i), some (gD g), some (.loc f), some (.int (j : Nat)), some (.int (k1 : Nat)), some (.int (k2 : Nat)), none, none] 3) (ret []))) (ret (.str (Str.ofString "and")))) (b_Search_how_made_15 (callF C11 (n + 1)) [some (.loc i), some (gD g), some (.loc f), some (.int (j : Nat)), some (.int (k1 : Nat)), some (.int (k2 : Nat)), none, none]) (nxt [some (.loc i), some (gD g), some (.loc f), some (.int (j : Nat)), some (.int (k1 : Nat)), some (.int (k2 : Nat)), none, none])) (b_Search_how_made_12 (callF C11 (n + 1)))) S = finM (b_Search_how_made_6 (callF C11 (n + 1)) [some (.loc i), some (gD g), some (.loc f), some (.int (j : Nat)), some (.int (k1 : Nat)), some (.int (k2 : Nat)), none, none]) S := by
      refine (fin_if (b := false) (S1 := S) ((kind_is X n hj _).trans rfl)).trans ?_
      rw [if_neg Bool.false_ne_true, fin_nxt]
      unfold b_Search_how_made_12
      refine (fin_if (b := false) (S1 := S) ((kind_is X n hj _).trans rfl)).trans ?_
      rw [if_neg Bool.false_ne_true, fin_nxt]
    rw [e6]
    unfold b_Search_how_made_6
    by_cases h2 : k2 ∈ fd.map (·.1)
    · refine mk34 S m (.tuple [.str (Str.ofString "suppose"), .tuple [.tuple [gD g, .int (k2 : Nat)]]]) ((fin_if (S1 := S) (in_fd F k2)).trans ?_) (.inr ⟨good1 (a := (g, k2)) (.here h2), .inl (i2.mpr h2)⟩) X (Fr.refl ..)
      rw [if_pos (decide_eq_true h2)]; rfl
    · have e7 : finM (seqM (ifM (cmpS .In (lk [some (.loc i), some (gD g), some (.loc f), some (.int (j : Nat)), some (.int (k1 : Nat)), some (.int (k2 : Nat)), none, none] 5) (lk [some (.loc i), some (gD g), some (.loc f), some (.int (j : Nat)), some (.int (k1 : Nat)), some (.int (k2 : Nat)), none, none] 2)) (b_Search_how_made_5 (callF C11 (n + 1)) [some (.loc i), some (gD g), some (.loc f), some (.int (j : Nat)), some (.int (k1 : Nat)), some (.int (k2 : Nat)), none, none]) (nxt [some (.loc i), some (gD g), some (.loc f), some (.int (j : Nat)), some (.int (k1 : Nat)), some (.int (k2 : Nat)), none, none])) (b_Search_how_made_4 (callF C11 (n + 1)))) S = finM (b_Search_how_made_4 (callF C11 (n + 1)) [some (.loc i), some (gD g), some (.loc f), some (.int (j : Nat)), some (.int (k1 : Nat)), some (.int (k2 : Nat)), none, none]) S := by
        refine (fin_if (S1 := S) (in_fd F k2)).trans ?_
        rw [if_neg (by rw [decide_eq_false h2]; exact Bool.false_ne_true), fin_nxt]
      rw [e7]
      unfold b_Search_how_made_4
      by_cases h1 : k1 ∈ fd.map (·.1)
      · refine mk34 S m .none ((fin_if (S1 := S) (nin_fd F k1)).trans ?_) (.inl ⟨rfl, fun z => z.elim (fun z => h2 (i2.mp z)) fun z => z.1 (i1.mpr h1)⟩) X (Fr.refl ..)
        rw [decide_eq_true h1]; rfl
      · have hng : k1 ∉ g := fun z => h1 (hb k1 z)
        have hlt : k1 < U.length := (List.getElem?_eq_some_iff.mp hk1).1
        refine ob34 (ask_th X (T k1 hlt hng) hk2) fun S' m' b e8 hb' X' x => ?_
        have hb0 := hb'
        rw [gs_ins hk1] at hb'
        rw [insN_len] at x
        have e9 : finM (seqM (ifM (cmpS .NotIn (lk [some (.loc i), some (gD g), some (.loc f), some (.int (j : Nat)), some (.int (k1 : Nat)), some (.int (k2 : Nat)), none, none] 4) (lk [some (.loc i), some (gD g), some (.loc f), some (.int (j : Nat)), some (.int (k1 : Nat)), some (.int (k2 : Nat)), none, none] 2)) (b_Search_how_made_3 (callF C11 (n + 1)) [some (.loc i), some (gD g), some (.loc f), some (.int (j : Nat)), some (.int (k1 : Nat)), some (.int (k2 : Nat)), none, none]) (nxt [some (.loc i), some (gD g), some (.loc f), some (.int (j : Nat)), some (.int (k1 : Nat)), some (.int (k2 : Nat)), none, none])) (b_Search_how_made_0 (callF C11 (n + 1)))) S =
            finM (seqM (if b then b_Search_how_made_1 (callF C11 (n + 1)) [some (.loc i), some (gD g), some (.loc f), some (.int (j : Nat)), some (.int (k1 : Nat)), some (.int (k2 : Nat)), some (gD (insN k1 g)), none] else nxt [some (.loc i), some (gD g), some (.loc f), some (.int (j : Nat)), some (.int (k1 : Nat)), some (.int (k2 : Nat)), some (gD (insN k1 g)), none]) fun σ => seqM (nxt σ) (b_Search_how_made_0 (callF C11 (n + 1)))) S' := by
          refine (fin_if (S1 := S) (nin_fd F k1)).trans ?_
          rw [decide_eq_false h1, if_pos (show (!false) = true from rfl)]
          unfold b_Search_how_made_3
          rw [fin_seq]
          refine (fin_put (d := gD (insN k1 g)) (S1 := S) (with_ok n hg.up hng hgl S)).trans ?_
          unfold b_Search_how_made_2
          rw [fin_seq]
          exact fin_if e8
        rw [e9]
        cases b with
        | true => exact mk34 S' m' (.tuple [.str (Str.ofString "suppose"), .tuple [.tuple [gD (insN k1 g), .int (k2 : Nat)]]]) rfl (.inr ⟨good1 (a := (insN k1 g, k2)) (.up hlt hng hk2 (hb0.mp rfl)), .inr ⟨fun z => h1 (i1.mp z), hb'.mp rfl⟩⟩) X' x
        | false => exact mk34 S' m' .none rfl (.inl ⟨rfl, fun z => z.elim (fun z => h2 (i2.mp z)) fun z => Bool.false_ne_true (hb'.mpr z.2)⟩) X' x
end
end L11
end Mine
end

section
namespace Mine
open PySem
namespace L11
section
variable {S : Store} {i dn pn mn f : Nat} {U : List Sx} {m : List (List Nat × Nat)} {fd : List (Nat × D)} {g : List Nat}
theorem OkG.len16 (hU : UOk U) (hg : OkG U.length g) : g.length <= U.length := by
  have h1 : g.Nodup := hg.up.imp fun h => Nat.ne_of_lt h
  have := h1.length_le_of_subset (l₂ := List.range U.length) fun x hx => List.mem_range.mpr (hg.lt x hx)
  simpa using this
theorem c_taken (n : Nat) (a b c d e : D) : callF C11 (n + 1) (mname nmS (Str.ofString "how_taken")) [a, b, c, d, e] = s_Search_how_taken (callF C11 n) a b c d e := by kernel_rfl
theorem eq_ints {a b : Nat} : cmpM .Eq (.int (a : Nat)) (.int (b : Nat)) = ret (decide (a = b)) := by
  show eqM (.int (a : Nat)) (.int (b : Nat)) = _
  rw [eqM_int]
  have : (((a : Nat) : Int) == ((b : Nat) : Int)) = decide (a = b) := by
    by_cases h : a = b
    · subst h; simp
    · rw [decide_eq_false h, beq_eq_false_iff_ne]; lia
  rw [this]
theorem idx_eq {k l : Nat} {p r : Sx} (hn : U.Nodup) (hk : U[k]? = some p) (hl : U[l]? = some r) : k = l ↔ p = r := by
  constructor
  · rintro rfl; rw [hk] at hl; exact Option.some.inj hl
  · rintro rfl; exact (List.getElem?_inj (List.getElem?_eq_some_iff.mp hk).1 hn).mp (hk.trans hl.symm)
noncomputable abbrev sgT (i f : Nat) (g : List Nat) (a r k1 k2 : Nat) (x y : Option D) : Sg := [some (.loc i), some (gD g), some (.loc f), some (.int (a : Nat)), some (.int (r : Nat)), some (.int (k1 : Nat)), some (.int (k2 : Nat)), x, y, none]
theorem taken_ok (X : St S i dn pn mn U m) (hU : UOk U) (hg : OkG U.length g) (F : Fd S f mn m fd) (hb : ∀ x ∈ g, x ∈ fd.map (·.1)) (n : Nat) {j r : Nat} {w : W3} {p q s : Sx} (hj : U[j]? = some (.bin w p q)) (hr : U[r]? = some s) (hjf : j ∈ fd.map (·.1)) (T : ∀ k, k < U.length -> k ∉ g -> Th (n + 1) U (insN k g)) :
    ∃ S' m' d, callF C11 (n + 2) (mname nmS (Str.ofString "how_taken")) [.loc i, gD g, .loc f, .int (j : Nat), .int (r : Nat)] S = .ok d S' /\ Res U g (fd.map (·.1)) d (TakenP U (gs U g) (gs U (fd.map (·.1))) s (.bin w p q)) /\ St S' i dn pn mn U m' /\ Fr (g.length + 1) S S' mn m m' := by
  have hm := hU.cl w p q (List.mem_of_getElem? hj)
  refine ob11 (idx_of hm.1) fun k1 hk1 => ?_
  refine ob11 (idx_of hm.2) fun k2 hk2 => ?_
  have i1 := gs_idx (l := fd.map (·.1)) hU.nd hk1
  have i2 := gs_idx (l := fd.map (·.1)) hU.nd hk2
  have j1 := idx_eq hU.nd hk1 hr
  have j2 := idx_eq hU.nd hk2 hr
  have hgl : g.length <= 16 := Nat.le_trans (OkG.len16 hU hg) hU.len
  rw [c_taken]
  show ∃ S' m' d, finM (b_Search_how_taken_18 (callF C11 (n + 1)) [some (.loc i), some (gD g), some (.loc f), some (.int (j : Nat)), some (.int (r : Nat)), none, none, none, none, none]) S = .ok d S' /\ _
  have e0 : finM (b_Search_how_taken_18 (callF C11 (n + 1)) [some (.loc i), some (gD g), some (.loc f), some (.int (j : Nat)), some (.int (r : Nat)), none, none, none, none, none]) S = finM (b_Search_how_taken_16 (callF C11 (n + 1)) (sgT i f g j r k1 k2 none none)) S := by
    unfold b_Search_how_taken_18
    refine (fin_put (d := .int (k1 : Nat)) (S1 := S) (X.sea.half1 hU n hj hk1)).trans ?_
    unfold b_Search_how_taken_17
    exact fin_put (d := .int (k2 : Nat)) (S1 := S) (X.sea.half2 hU n hj hk2)
  rw [e0]
  cases w with
  | a =>
    refine mk34 S m (if k1 = r then .tuple [.str (Str.ofString "left"), .tuple [.tuple [gD g, .int (j : Nat)]]] else if k2 = r then .tuple [.str (Str.ofString "right"), .tuple [.tuple [gD g, .int (j : Nat)]]] else .none) ?_ ?_ X (Fr.refl ..)
    · unfold b_Search_how_taken_16
      refine (fin_if (b := true) (S1 := S) ((kind_is X n hj _).trans rfl)).trans ?_
      rw [if_pos rfl]
      unfold b_Search_how_taken_15
      rw [fin_seq]
      refine (fin_if (S1 := S) (congrFun (eq_ints (a := k1) (b := r)) S)).trans ?_
      by_cases h1 : k1 = r
      · rw [if_pos (decide_eq_true h1), if_pos h1]; rfl
      · rw [if_neg (by rw [decide_eq_false h1]; exact Bool.false_ne_true), if_neg h1, fin_nxt]
        unfold b_Search_how_taken_13
        rw [fin_seq]
        refine (fin_if (S1 := S) (congrFun (eq_ints (a := k2) (b := r)) S)).trans ?_
        by_cases h2 : k2 = r
        · rw [if_pos (decide_eq_true h2), if_pos h2]; rfl
        · rw [if_neg (by rw [decide_eq_false h2]; exact Bool.false_ne_true), if_neg h2]; rfl
    · by_cases h1 : k1 = r
      · rw [if_pos h1]; exact .inr ⟨good1 (a := (g, j)) (.here hjf), .inl (j1.mp h1)⟩
      · rw [if_neg h1]
        by_cases h2 : k2 = r
        · rw [if_pos h2]; exact .inr ⟨good1 (a := (g, j)) (.here hjf), .inr (j2.mp h2)⟩
        · rw [if_neg h2]; exact .inl ⟨rfl, fun z => z.elim (fun z => h1 (j1.mpr z)) fun z => h2 (j2.mpr z)⟩
  | t =>
    have e1 : finM (b_Search_how_taken_16 (callF C11 (n + 1)) (sgT i f g j r k1 k2 none none)) S = finM (seqM (b_Search_how_taken_9 (callF C11 (n + 1)) (sgT i f g j r k1 k2 none none)) (b_Search_how_taken_6 (callF C11 (n + 1)))) S := by
      unfold b_Search_how_taken_16
      refine (fin_if (b := false) (S1 := S) ((kind_is X n hj _).trans rfl)).trans ?_
      rw [if_neg Bool.false_ne_true, fin_nxt]
      unfold b_Search_how_taken_10
      refine (fin_if (b := true) (S1 := S) ((kind_is X n hj _).trans rfl)).trans ?_
      rw [if_pos rfl]
    rw [e1]
    unfold b_Search_how_taken_9
    rw [fin_seq]
    by_cases h : k2 = r /\ k1 ∈ fd.map (·.1)
    · refine mk34 S m (.tuple [.str (Str.ofString "onward"), .tuple [.tuple [gD g, .int (j : Nat)], .tuple [gD g, .int (k1 : Nat)]]]) ((fin_if (b := true) (S1 := S) ?_).trans ?_) (.inr ⟨good2 (a := (g, j)) (b := (g, k1)) (.here hjf) (.here h.2), j2.mp h.1, i1.mpr h.2⟩) X (Fr.refl ..)
      · show andM (cmpM .Eq (.int (k2 : Nat)) (.int (r : Nat))) (andM (cmpM .In (.int (k1 : Nat)) (.loc f)) (ret true)) S = _
        rw [eq_ints, decide_eq_true h.1, andM_t]
        unfold andM
        rw [bnd_st (in_fd F k1), decide_eq_true h.2]; rfl
      · rw [if_pos rfl]; rfl
    · refine mk34 S m .none ((fin_if (b := false) (S1 := S) ?_).trans ?_) (.inl ⟨rfl, fun z => h ⟨j2.mpr z.1, i1.mp z.2⟩⟩) X (Fr.refl ..)
      · show andM (cmpM .Eq (.int (k2 : Nat)) (.int (r : Nat))) (andM (cmpM .In (.int (k1 : Nat)) (.loc f)) (ret true)) S = _
        rw [eq_ints]
        by_cases h1 : k2 = r
        · rw [decide_eq_true h1, andM_t]
          unfold andM
          rw [bnd_st (in_fd F k1), decide_eq_false fun h2 => h ⟨h1, h2⟩]; rfl
        · rw [decide_eq_false h1]; rfl
      · rw [if_neg Bool.false_ne_true]; rfl
  | o =>
    have e1 : finM (b_Search_how_taken_16 (callF C11 (n + 1)) (sgT i f g j r k1 k2 none none)) S = finM (b_Search_how_taken_6 (callF C11 (n + 1)) (sgT i f g j r k1 k2 none none)) S := by
      unfold b_Search_how_taken_16
      refine (fin_if (b := false) (S1 := S) ((kind_is X n hj _).trans rfl)).trans ?_
      rw [if_neg Bool.false_ne_true, fin_nxt]
      unfold b_Search_how_taken_10
      refine (fin_if (b := false) (S1 := S) ((kind_is X n hj _).trans rfl)).trans ?_
      rw [if_neg Bool.false_ne_true, fin_nxt]
    rw [e1]
    unfold b_Search_how_taken_6
    by_cases h : k1 ∈ fd.map (·.1) \/ k2 ∈ fd.map (·.1)
    · refine mk34 S m .none ((fin_if (b := true) (S1 := S) ?_).trans ?_) (.inl ⟨rfl, fun z => h.elim (fun h => z.1 (i1.mpr h)) fun h => z.2.1 (i2.mpr h)⟩) X (Fr.refl ..)
      · show orM (cmpM .In (.int (k1 : Nat)) (.loc f)) (orM (cmpM .In (.int (k2 : Nat)) (.loc f)) (ret false)) S = _
        unfold orM
        rw [bnd_st (in_fd F k1)]
        by_cases h1 : k1 ∈ fd.map (·.1)
        · rw [decide_eq_true h1]; rfl
        · rw [decide_eq_false h1]
          dsimp only
          rw [bnd_st (in_fd F k2), decide_eq_true (h.resolve_left h1)]; rfl
      · rw [if_pos rfl]; rfl
    · have n1 : k1 ∉ fd.map (·.1) := fun z => h (.inl z)
      have n2 : k2 ∉ fd.map (·.1) := fun z => h (.inr z)
      have g1 : k1 ∉ g := fun z => n1 (hb k1 z)
      have g2 : k2 ∉ g := fun z => n2 (hb k2 z)
      have e2 : finM (seqM (ifM (orM (cmpS .In (lk (sgT i f g j r k1 k2 none none) 5) (lk (sgT i f g j r k1 k2 none none) 2)) (orM (cmpS .In (lk (sgT i f g j r k1 k2 none none) 6) (lk (sgT i f g j r k1 k2 none none) 2)) (ret false))) (b_Search_how_taken_5 (callF C11 (n + 1)) (sgT i f g j r k1 k2 none none)) (nxt (sgT i f g j r k1 k2 none none))) (b_Search_how_taken_4 (callF C11 (n + 1)))) S =
          finM (b_Search_how_taken_2 (callF C11 (n + 1)) (sgT i f g j r k1 k2 (some (gD (insN k1 g))) (some (gD (insN k2 g))))) S := by
        refine (fin_if (b := false) (S1 := S) ?_).trans ?_
        · show orM (cmpM .In (.int (k1 : Nat)) (.loc f)) (orM (cmpM .In (.int (k2 : Nat)) (.loc f)) (ret false)) S = _
          unfold orM
          rw [bnd_st (in_fd F k1), decide_eq_false n1]
          dsimp only
          rw [bnd_st (in_fd F k2), decide_eq_false n2]; rfl
        rw [if_neg Bool.false_ne_true, fin_nxt]
        unfold b_Search_how_taken_4
        refine (fin_put (d := gD (insN k1 g)) (S1 := S) (with_ok n hg.up g1 hgl S)).trans ?_
        unfold b_Search_how_taken_3
        exact fin_put (d := gD (insN k2 g)) (S1 := S) (with_ok n hg.up g2 hgl S)
      rw [e2]
      unfold b_Search_how_taken_2
      refine ob34 (ask_th X (T k1 (List.getElem?_eq_some_iff.mp hk1).1 g1) hr) fun S1 m1 b1 e3 hb1 X1 x1 => ?_
      have hb1o := hb1
      rw [gs_ins hk1] at hb1
      rw [insN_len] at x1
      cases b1 with
      | false =>
        refine mk34 S1 m1 .none ((fin_if (b := false) (S1 := S1) ?_).trans ?_) (.inl ⟨rfl, fun z => Bool.false_ne_true (hb1.mpr z.2.2.1)⟩) X1 x1
        · show bnd (cmpS .In (ret (.int (r : Nat))) (oMeth C11 (callF C11 (n + 1)) (Str.ofString "theory_from") (ret (.loc i)) (ret [gD (insN k1 g)]))) _ S = _
          rw [bnd_st e3]; rfl
        · rw [if_neg Bool.false_ne_true]; rfl
      | true =>
        refine ob34 (ask_th X1 (T k2 (List.getElem?_eq_some_iff.mp hk2).1 g2) hr) fun S2 m2 b2 e4 hb2 X2 x2 => ?_
        have hb2o := hb2
        rw [gs_ins hk2] at hb2
        rw [insN_len] at x2
        have e5 : andM (cmpS .In (ret (.int (r : Nat))) (oMeth C11 (callF C11 (n + 1)) (Str.ofString "theory_from") (ret (.loc i)) (ret [gD (insN k1 g)]))) (andM (cmpS .In (ret (.int (r : Nat))) (oMeth C11 (callF C11 (n + 1)) (Str.ofString "theory_from") (ret (.loc i)) (ret [gD (insN k2 g)]))) (ret true)) S = .ok b2 S2 := by
          unfold andM
          rw [bnd_st e3]
          dsimp only
          rw [bnd_st e4]
          cases b2 <;> rfl
        cases b2 with
        | true =>
          refine mk34 S2 m2 (.tuple [.str (Str.ofString "cases"), .tuple [.tuple [gD g, .int (j : Nat)], .tuple [gD (insN k1 g), .int (r : Nat)], .tuple [gD (insN k2 g), .int (r : Nat)]]]) ((fin_if (b := true) (S1 := S2) e5).trans ?_) (.inr ⟨good3 (a := (g, j)) (b := (insN k1 g, r)) (d := (insN k2 g, r)) (.here hjf) (.up (List.getElem?_eq_some_iff.mp hk1).1 g1 hr (hb1o.mp rfl)) (.up (List.getElem?_eq_some_iff.mp hk2).1 g2 hr (hb2o.mp rfl)), fun z => n1 (i1.mp z), fun z => n2 (i2.mp z), hb1.mp rfl, hb2.mp rfl⟩) X2 (x1.trans x2)
          rw [if_pos rfl]; rfl
        | false =>
          refine mk34 S2 m2 .none ((fin_if (b := false) (S1 := S2) e5).trans ?_) (.inl ⟨rfl, fun z => Bool.false_ne_true (hb2.mpr z.2.2.2)⟩) X2 (x1.trans x2)
          rw [if_neg Bool.false_ne_true]; rfl
end
end L11
end Mine
end

section
namespace Mine
open PySem
namespace L11
section
variable {S : Store} {i dn pn mn f : Nat} {U : List Sx} {m : List (List Nat × Nat)} {fd : List (Nat × D)} {g : List Nat}
theorem is_res {ks : List Nat} {r : D} {P : Prop} (h : Res U g ks r P) : (cmpM .Is r .none = ret true /\ ¬ P /\ r = .none) \/ (cmpM .Is r .none = ret false /\ P) := by
  rcases h with ⟨rfl, h⟩ | ⟨⟨rr, cs, rfl, _⟩, h⟩
  · exact .inl ⟨rfl, h, rfl⟩
  · exact .inr ⟨rfl, h⟩
theorem isnot_res {ks : List Nat} {r : D} {P : Prop} (h : Res U g ks r P) : (cmpM .IsNot r .none = ret false /\ ¬ P) \/ (cmpM .IsNot r .none = ret true /\ P /\ GoodE U g ks r) := by
  rcases h with ⟨rfl, h⟩ | ⟨⟨rr, cs, rfl, hh⟩, h⟩
  · exact .inl ⟨rfl, h⟩
  · exact .inr ⟨rfl, h, rr, cs, rfl, hh⟩
theorem kind_in (X : St S i dn pn mn U m) (n : Nat) {j : Nat} {s : Sx} (hj : U[j]? = some s) : cmpS .In (oMeth C11 (callF C11 (n + 1)) (Str.ofString "kind") (ret (.loc i)) (ret [.int (j : Nat)])) (ret c_JOINING) S = .ok (isBin s) S := by
  show bnd (oMeth C11 (callF C11 (n + 1)) (Str.ofString "kind") (ret (.loc i)) (ret [.int (j : Nat)])) (fun a => cmpM .In a c_JOINING) S = _
  rw [bnd_st (X.sea.kind n hj), in_join]; rfl
theorem fd_keys (fd : List (Nat × D)) : (tI fd).map (fun p => kdD p.1) = (fd.map (·.1)).map fun k => D.int (k : Nat) := by
  unfold tI; rw [List.map_map, List.map_map]; rfl
theorem list_fd (F : Fd S f mn m fd) (hz : fd.length <= 100) : bnd (consM (ret (.loc f)) (ret [])) (fun ds => bf0 .list ds) S = .ok (.list ((fd.map (·.1)).map fun k => D.int (k : Nat))) S := by
  show bf0 .list [.loc f] S = _
  rw [list_tab F.at' (by rw [tI_len]; lia), fd_keys]
theorem c_how (n : Nat) (a b c d : D) : callF C11 (n + 1) (mname nmS (Str.ofString "how")) [a, b, c, d] = s_Search_how (callF C11 n) a b c d := by kernel_rfl
noncomputable abbrev sgH (i f : Nat) (g : List Nat) (r : Nat) (nw d : D) (o : Option D) : Sg := [some (.loc i), some (gD g), some (.loc f), some (.int (r : Nat)), some nw, some d, o, none, none]
theorem taken_bin {G F : List Sx} {s w : Sx} (h : TakenP U G F s w) : isBin w = true := by
  cases w with
  | nm x => exact h.elim
  | fls => exact h.elim
  | bin w p q => rfl
theorem made_bin {G F : List Sx} {w : Sx} (h : MadeP U G F w) : isBin w = true := by
  cases w with
  | nm x => exact h.elim
  | fls => exact h.elim
  | bin w p q => rfl
theorem how_loop (hU : UOk U) (hg : OkG U.length g) (hb : ∀ x ∈ g, x ∈ fd.map (·.1)) (n : Nat) {r : Nat} {s : Sx} (hr : U[r]? = some s) (T : ∀ k, k < U.length -> k ∉ g -> Th (n + 1) U (insN k g)) (nw : D) :
    ∀ (ks : List Nat) (P : Prop) (S : Store) (m : List (List Nat × Nat)) (d : D) (o : Option D), (∀ k ∈ ks, k < U.length) -> (∀ k ∈ ks, k ∈ fd.map (·.1)) -> St S i dn pn mn U m -> Fd S f mn m fd -> Res U g (fd.map (·.1)) d P ->
    ∃ S' m' d' o', forL (fun d σ => b_Search_how_2 (callF C11 (n + 2)) (put σ 6 d)) (ks.map fun k => D.int (k : Nat)) (sgH i f g r nw d o) S = .ok (.next (sgH i f g r nw d' o')) S' /\ Res U g (fd.map (·.1)) d' (P \/ ∃ w ∈ gs U ks, TakenP U (gs U g) (gs U (fd.map (·.1))) s w) /\ St S' i dn pn mn U m' /\ Fr (g.length + 1) S S' mn m m'
  | [], P, S, m, d, o, _, _, X, F, R => by
    refine mk44 S m d o rfl ?_ X (Fr.refl ..)
    rcases R with ⟨h1, h2⟩ | ⟨h1, h2⟩
    · exact .inl ⟨h1, fun z => z.elim h2 fun ⟨w, hw, _⟩ => nomatch hw⟩
    · exact .inr ⟨h1, .inl h2⟩
  | k :: ks, P, S, m, d, o, hk, hkf, X, F, R => by
    have hkl := hk k (List.mem_cons_self ..)
    have hkw : U[k]? = some U[k] := List.getElem?_eq_getElem hkl
    generalize U[k] = w at hkw
    have q : forL (fun d σ => b_Search_how_2 (callF C11 (n + 2)) (put σ 6 d)) ((k :: ks).map fun k => D.int (k : Nat)) (sgH i f g r nw d o) = bnd (calm (b_Search_how_2 (callF C11 (n + 2)) (sgH i f g r nw d (some (.int (k : Nat)))))) fun f => match f with
      | .next σ' => forL (fun d σ => b_Search_how_2 (callF C11 (n + 2)) (put σ 6 d)) (ks.map fun k => D.int (k : Nat)) σ'
      | .ret v => ret (.ret v) := rfl
    have one : ∃ S' m' d', b_Search_how_2 (callF C11 (n + 2)) (sgH i f g r nw d (some (.int (k : Nat)))) S = .ok (.next (sgH i f g r nw d' (some (.int (k : Nat))))) S' /\ Res U g (fd.map (·.1)) d' (P \/ TakenP U (gs U g) (gs U (fd.map (·.1))) s w) /\ St S' i dn pn mn U m' /\ Fr (g.length + 1) S S' mn m m' := by
      unfold b_Search_how_2
      have stay : ∀ (b : Bool), b = false -> ∀ (x : EM Fl), andM (cmpM .Is d .none) (andM (cmpS .In (oMeth C11 (callF C11 (n + 2)) (Str.ofString "kind") (ret (.loc i)) (ret [.int (k : Nat)])) (ret c_JOINING)) (ret true)) S = .ok b S -> seqM (ifM (andM (cmpM .Is d .none) (andM (cmpS .In (oMeth C11 (callF C11 (n + 2)) (Str.ofString "kind") (ret (.loc i)) (ret [.int (k : Nat)])) (ret c_JOINING)) (ret true))) x (nxt (sgH i f g r nw d (some (.int (k : Nat)))))) nxt S = .ok (.next (sgH i f g r nw d (some (.int (k : Nat))))) S := fun b hb x h => by
        refine (seq_st (S1 := S) (σ := sgH i f g r nw d (some (.int (k : Nat)))) ?_).trans rfl
        rw [ifM_st h, hb]; rfl
      rcases is_res R with ⟨e1, h1, rfl⟩ | ⟨e1, h1⟩
      · cases hw : isBin w with
        | false =>
          refine mk34 S m .none (stay false rfl _ ?_) (.inl ⟨rfl, fun z => z.elim h1 fun z => ?_⟩) X (Fr.refl ..)
          · rw [e1, andM_t]
            unfold andM
            rw [bnd_st (kind_in X (n + 1) hkw), hw]; rfl
          · have := taken_bin z; rw [hw] at this; cases this
        | true =>
          match w, hw, hkw with
          | .bin w p q, hw, hkw =>
            refine ob34 (taken_ok X hU hg F hb n hkw hr (hkf k (List.mem_cons_self ..)) T) fun S' m' d' e2 R' X' x => ?_
            refine mk34 S' m' d' ?_ ?_ X' x
            · refine (seq_st (S1 := S') (σ := sgH i f g r nw d' (some (.int (k : Nat)))) ?_).trans rfl
              rw [ifM_st (b := true) (S1 := S) (by
                show andM (cmpM .Is .none .none) (andM (cmpS .In (oMeth C11 (callF C11 (n + 2)) (Str.ofString "kind") (ret (.loc i)) (ret [.int (k : Nat)])) (ret c_JOINING)) (ret true)) S = _
                rw [e1, andM_t]
                unfold andM
                rw [bnd_st (kind_in X (n + 1) hkw)]; rfl), if_pos rfl]
              unfold b_Search_how_1
              refine (seq_st (S1 := S') (σ := sgH i f g r nw d' (some (.int (k : Nat)))) ?_).trans rfl
              show bnd (oMeth C11 (callF C11 (n + 2)) (Str.ofString "how_taken") (ret (.loc i)) (ret [gD g, .loc f, .int (k : Nat), .int (r : Nat)])) (fun d => ret (Fl.next (put (sgH i f g r nw .none (some (.int (k : Nat)))) 5 d))) S = _
              rw [bnd_st ((meth_ok _ _ X.sea.inst X.sea.ns (by decide +kernel) rfl).trans (calm_st e2))]; rfl
            · rcases R' with ⟨a1, a2⟩ | ⟨a1, a2⟩
              · exact .inl ⟨a1, fun z => z.elim h1 a2⟩
              · exact .inr ⟨a1, .inr a2⟩
      · refine mk34 S m d (stay false rfl _ ?_) ?_ X (Fr.refl ..)
        · rw [e1]; rfl
        · rcases R with ⟨a1, a2⟩ | ⟨a1, a2⟩
          · exact absurd h1 a2
          · exact .inr ⟨a1, .inl a2⟩
    refine ob34 one fun S1 m1 d1 e1 R1 X1 x1 => ?_; clear one
    refine ob44 (how_loop hU hg hb n hr T nw ks _ S1 m1 d1 (some (.int (k : Nat))) (fun k h => hk k (List.mem_cons_of_mem _ h)) (fun k h => hkf k (List.mem_cons_of_mem _ h)) X1 (F.step x1) R1) fun S2 m2 d2 o2 e2 R2 X2 x2 => ?_
    refine mk44 S2 m2 d2 o2 ?_ ?_ X2 (x1.trans x2)
    · rw [q, bnd_st (calm_st e1)]; exact e2
    · have he : (P \/ ∃ w ∈ gs U (k :: ks), TakenP U (gs U g) (gs U (fd.map (·.1))) s w) ↔ ((P \/ TakenP U (gs U g) (gs U (fd.map (·.1))) s w) \/ ∃ w ∈ gs U ks, TakenP U (gs U g) (gs U (fd.map (·.1))) s w) := by
        have hgs : gs U (k :: ks) = w :: gs U ks := by unfold gs; rw [List.filterMap_cons, hkw]
        rw [hgs]
        constructor
        · rintro (z | ⟨v, hv, z⟩)
          · exact .inl (.inl z)
          · rcases List.mem_cons.mp hv with rfl | hv
            · exact .inl (.inr z)
            · exact .inr (mk12 v hv z)
        · rintro ((z | z) | ⟨v, hv, z⟩)
          · exact .inl z
          · exact .inr (mk12 w (List.mem_cons_self ..) z)
          · exact .inr (mk12 v (List.mem_cons_of_mem _ hv) z)
      unfold Res
      rw [he]; exact R2
theorem how_ok (X : St S i dn pn mn U m) (hU : UOk U) (hg : OkG U.length g) (F : Fd S f mn m fd) (hb : ∀ x ∈ g, x ∈ fd.map (·.1)) (hfd : ∀ k ∈ fd.map (·.1), k < U.length) (hz : fd.length <= 100) (n : Nat) {r : Nat} {s : Sx} (hr : U[r]? = some s) (T : ∀ k, k < U.length -> k ∉ g -> Th (n + 1) U (insN k g)) :
    ∃ S' m' d, callF C11 (n + 3) (mname nmS (Str.ofString "how")) [.loc i, gD g, .loc f, .int (r : Nat)] S = .ok d S' /\ Res U g (fd.map (·.1)) d (HowP U (gs U g) (gs U (fd.map (·.1))) s) /\ St S' i dn pn mn U m' /\ Fr (g.length + 1) S S' mn m m' := by
  rw [c_how]
  show ∃ S' m' d, finM (b_Search_how_9 (callF C11 (n + 2)) [some (.loc i), some (gD g), some (.loc f), some (.int (r : Nat)), none, none, none, none, none]) S = .ok d S' /\ _
  have hno : ∃ nw, methS mGet1 (attS C11 (Str.ofString "places") (ret (.loc i))) (ret [enc .fls]) S = .ok nw S /\ cmpM .In nw (.loc f) S = .ok (decide (Sx.fls ∈ gs U (fd.map (·.1)))) S /\ (Sx.fls ∈ gs U (fd.map (·.1)) -> ∃ k0 : Nat, nw = .int (k0 : Nat) /\ k0 ∈ fd.map (·.1)) := by
    have e1 : methS mGet1 (attS C11 (Str.ofString "places") (ret (.loc i))) (ret [enc .fls]) S = .ok ((tabAt (ptab U 0) (kx .fls)).getD .none) S := by
      show bnd (attrM C11 (.loc i) (Str.ofString "places")) (fun a => bnd (methK mGet1 a) fun _ => bnd (ret [enc .fls]) fun ds => mGet1.run a ds) S = _
      rw [bnd_st X.sea.places]
      exact get_tab X.sea.pl (key_enc (s := .fls) (by decide))
    by_cases h : Sx.fls ∈ U
    · refine ob11 (idx_of h) fun k0 hk0 => ?_
      have e2 := ptab_at U 0 k0 .fls hU.nd hk0
      rw [Nat.zero_add] at e2
      refine mk13 (.int (k0 : Nat)) (by rw [e1, e2]; rfl) ?_ (fun z => ⟨k0, rfl, (gs_idx hU.nd hk0).mp z⟩)
      rw [in_fd F k0]
      have := gs_idx (l := fd.map (·.1)) hU.nd hk0
      rw [decide_eq_decide.mpr this]
    · refine mk13 .none (by rw [e1, ptab_none U 0 .fls h]; rfl) ?_ (fun z => absurd (gs_U _ z) h)
      rw [in_tab F.at' key_no, tI_noneK, decide_eq_false fun z => h (gs_U _ z)]; rfl
  refine ob13 hno fun nw en1 en2 en3 => ?_; clear hno
  have e0 : finM (b_Search_how_9 (callF C11 (n + 2)) [some (.loc i), some (gD g), some (.loc f), some (.int (r : Nat)), none, none, none, none, none]) S = finM (b_Search_how_8 (callF C11 (n + 2)) [some (.loc i), some (gD g), some (.loc f), some (.int (r : Nat)), some nw, none, none, none, none]) S := by
    unfold b_Search_how_9
    exact fin_put (d := nw) (S1 := S) en1
  rw [e0]
  unfold b_Search_how_8
  by_cases hf : Sx.fls ∈ gs U (fd.map (·.1))
  · refine ob12 (en3 hf) fun k0 hk0 hk1 => ?_
    refine mk34 S m (.tuple [.str (Str.ofString "any"), .tuple [.tuple [gD g, nw]]]) ((fin_if (S1 := S) en2).trans ?_) (.inr ⟨hk0 ▸ good1 (a := (g, k0)) (.here hk1), .inl hf⟩) X (Fr.refl ..)
    rw [decide_eq_true hf]; rfl
  · have e1 : finM (seqM (ifM (cmpS .In (lk [some (.loc i), some (gD g), some (.loc f), some (.int (r : Nat)), some nw, none, none, none, none] 4) (lk [some (.loc i), some (gD g), some (.loc f), some (.int (r : Nat)), some nw, none, none, none, none] 2)) (b_Search_how_7 (callF C11 (n + 2)) [some (.loc i), some (gD g), some (.loc f), some (.int (r : Nat)), some nw, none, none, none, none]) (nxt [some (.loc i), some (gD g), some (.loc f), some (.int (r : Nat)), some nw, none, none, none, none])) (b_Search_how_6 (callF C11 (n + 2)))) S = finM (b_Search_how_5 (callF C11 (n + 2)) (sgH i f g r nw .none none)) S := by
      refine (fin_if (S1 := S) en2).trans ?_
      rw [if_neg (by rw [decide_eq_false hf]; exact Bool.false_ne_true), fin_nxt]
      unfold b_Search_how_6
      exact fin_put (d := .none) (S1 := S) rfl
    rw [e1]
    unfold b_Search_how_5
    have hmade : ∃ S1 m1 d1, finM (seqM (ifM (cmpS .In (oMeth C11 (callF C11 (n + 2)) (Str.ofString "kind") (lk (sgH i f g r nw .none none) 0) (consM (lk (sgH i f g r nw .none none) 3) (ret []))) (ret c_JOINING)) (b_Search_how_4 (callF C11 (n + 2)) (sgH i f g r nw .none none)) (nxt (sgH i f g r nw .none none))) (b_Search_how_3 (callF C11 (n + 2)))) S = finM (b_Search_how_3 (callF C11 (n + 2)) (sgH i f g r nw d1 none)) S1 /\ Res U g (fd.map (·.1)) d1 (MadeP U (gs U g) (gs U (fd.map (·.1))) s) /\ St S1 i dn pn mn U m1 /\ Fr (g.length + 1) S S1 mn m m1 := by
      cases hs : isBin s with
      | false =>
        refine mk34 S m .none ((fin_if (b := false) (S1 := S) ((kind_in X (n + 1) hr).trans (by rw [hs]))).trans ?_) (.inl ⟨rfl, fun z => ?_⟩) X (Fr.refl ..)
        · rw [if_neg Bool.false_ne_true, fin_nxt]
        · have := made_bin z; rw [hs] at this; cases this
      | true =>
        match s, hs, hr with
        | .bin w p q, hs, hr =>
          refine ob34 (made_ok X hU hg F hb n hr T) fun S' m' d' e2 R' X' x => ?_
          refine mk34 S' m' d' ((fin_if (b := true) (S1 := S) (kind_in X (n + 1) hr)).trans ?_) R' X' x
          rw [if_pos rfl]
          unfold b_Search_how_4
          rw [fin_seq]
          refine (fin_put (d := d') (S1 := S') ?_).trans ?_
          · exact (meth_ok _ _ X.sea.inst X.sea.ns (by decide +kernel) rfl).trans (calm_st e2)
          · rfl
    refine ob34 hmade fun S1 m1 d1 e2 R1 X1 x1 => ?_; clear hmade
    rw [e2]
    have F1 := F.step x1
    refine ob44 (how_loop (i := i) (dn := dn) (pn := pn) (mn := mn) (f := f) (fd := fd) hU hg hb n hr T nw (fd.map (·.1)) _ S1 m1 d1 none hfd (fun _ h => h) X1 F1 R1) fun S2 m2 d2 o2 e3 R2 X2 x2 => ?_
    refine mk34 S2 m2 d2 ?_ ?_ X2 (x1.trans x2)
    · unfold b_Search_how_3
      refine (go_st (σ := sgH i f g r nw d2 o2) (S1 := S2) ?_).trans rfl
      show bnd (bnd (consM (ret (.loc f)) (ret [])) fun ds => bf0 .list ds) (fun it => bnd (optM (itemsOf it)) fun ds => forL _ ds _) S1 = _
      rw [bnd_st (list_fd F1 hz)]
      exact e3
    · rcases R2 with ⟨a1, a2⟩ | ⟨a1, a2⟩
      · exact .inl ⟨a1, fun z => z.elim hf fun z => a2 (z.elim .inl .inr)⟩
      · exact .inr ⟨a1, .inr (a2.elim .inl .inr)⟩
end
end L11
end Mine
end

section
namespace Mine
open PySem
namespace L11
section
variable {S : Store} {i dn pn mn f : Nat} {U : List Sx} {m : List (List Nat × Nat)} {fd : List (Nat × D)} {g : List Nat}
theorem St.but {S' : Store} (X : St S i dn pn mn U m) (k : ∀ j o, j ≠ f -> S[j]? = some o -> S'[j]? = some o) (h1 : f ≠ i) (h2 : f ≠ dn) (h3 : f ≠ pn) (h4 : f ≠ mn) (h5 : ∀ p ∈ m, p.2 ≠ f) : St S' i dn pn mn U m :=
  ⟨⟨k _ _ h1.symm X.sea.inst, k _ _ h2.symm X.sea.ns, k _ _ h3.symm X.sea.pl, k _ _ h4.symm X.sea.md, X.sea.ne1, X.sea.ne2, X.sea.ne3⟩,
    ⟨X.md.nd, fun p hp => ⟨(X.md.ok p hp).1, let ⟨fd, e, r⟩ := (X.md.ok p hp).2.ex; ⟨fd, k _ _ (h5 p hp) e, r⟩⟩⟩⟩
theorem St.lts (X : St S i dn pn mn U m) : ∀ p ∈ m, p.2 < S.length := fun p hp => let ⟨_, e, _⟩ := (X.md.ok p hp).2.ex; get_lt e
theorem St.app (X : St S i dn pn mn U m) (o : SObj) : St (S ++ [o]) i dn pn mn U m := by
  have lt : ∀ {j : Nat} {p : SObj}, S[j]? = some p -> S.length ≠ j := fun h => Nat.ne_of_gt (get_lt h)
  refine X.but (f := S.length) (fun j p _ e => ?_) (lt X.sea.inst) (lt X.sea.ns) (lt X.sea.pl) (lt X.sea.md) fun p hp => Nat.ne_of_lt (X.lts p hp)
  rw [List.getElem?_append_left (get_lt e)]; exact e
theorem Fd.app (X : St S i dn pn mn U m) : Fd (S ++ [.tab false []]) S.length mn m [] :=
  ⟨by simp [tI], Nat.ne_of_gt (get_lt X.sea.md), fun p hp => Nat.ne_of_lt (X.lts p hp)⟩
theorem St.put (X : St S i dn pn mn U m) (F : Fd S f mn m fd) (fd' : List (Nat × D)) : St (S.set f (.tab false (tI fd'))) i dn pn mn U m /\ Fd (S.set f (.tab false (tI fd'))) f mn m fd' := by
  have ne : ∀ {j : Nat} {p : SObj}, S[j]? = some p -> (∀ l, p ≠ .tab false l) -> f ≠ j := fun h q e => by
    have := F.at'; rw [e, h] at this; exact q _ (Option.some.inj this)
  refine ⟨X.but (f := f) (fun j p n e => ?_) (ne X.sea.inst fun _ h => by cases h) (ne X.sea.ns fun _ h => by cases h) (ne X.sea.pl fun _ h => by cases h) F.ne F.off, ⟨set_at F.at', F.ne, F.off⟩⟩
  rw [set_ne n.symm]; exact e
theorem Fr.app {L : Nat} (o : SObj) : Fr L S (S ++ [o]) mn m m :=
  ⟨fun j h _ => List.getElem?_append_left h, by simp, fun _ h => .inl h, fun _ h => h⟩
theorem Fr.put {L : Nat} {S0 : Store} {m0 : List (List Nat × Nat)} (x : Fr L S0 S mn m0 m) (o : SObj) (hf : S0.length <= f) : Fr L S0 (S.set f o) mn m0 m :=
  ⟨fun j h n => (set_ne (by omega)).trans (x.keep j h n), by rw [List.length_set]; exact x.len, x.new, x.old⟩
structure RI (S0 : Store) (m0 : List (List Nat × Nat)) (g : List Nat) (U : List Sx) (i dn pn mn f : Nat) (S : Store) (m : List (List Nat × Nat)) (fd : List (Nat × D)) : Prop where
  X : St S i dn pn mn U m
  F : Fd S f mn m fd
  x : Fr (g.length + 1) S0 S mn m0 m
  new : S0.length <= f
  nd : (fd.map (·.1)).Nodup
  lt : ∀ k ∈ fd.map (·.1), k < U.length
  gb : ∀ y ∈ g, y ∈ fd.map (·.1)
  sd : ∀ k ∈ fd.map (·.1), ∀ s, U[k]? = some s -> Der U (gs U g) s
  gv : GvOk U g fd
theorem RI.len {S0 : Store} {m0 : List (List Nat × Nat)} (R : RI S0 m0 g U i dn pn mn f S m fd) : fd.length <= U.length := by
  have := R.nd.length_le_of_subset (l₂ := List.range U.length) fun x hx => List.mem_range.mpr (R.lt x hx)
  simpa using this
noncomputable abbrev sgK (i f : Nat) (g : List Nat) (num : Option D) (b : Bool) (hw : Option D) : Sg := [some (.loc i), some (gD g), some (.loc f), num, some (.bool b), hw, none, none]
theorem RI.more {S0 : Store} {m0 : List (List Nat × Nat)} (R : RI S0 m0 g U i dn pn mn f S m fd) {k : Nat} {s : Sx} (hk : U[k]? = some s) (hn : k ∉ fd.map (·.1)) (d : D) (hd : Der U (gs U g) s) (hv : GoodE U g (fd.map (·.1)) d) : RI S0 m0 g U i dn pn mn f (S.set f (.tab false (tI (fd ++ [(k, d)])))) m (fd ++ [(k, d)]) := by
  refine ob02 (R.X.put R.F (fd ++ [(k, d)])) fun X' F' => ?_
  have e : (fd ++ [(k, d)]).map (·.1) = fd.map (·.1) ++ [k] := by rw [List.map_append]; rfl
  refine ⟨X', F', R.x.put _ R.new, R.new, ?_, ?_, ?_, ?_, R.gv.more hv⟩
  · rw [e]; exact List.nodup_append.mpr ⟨R.nd, by simp, fun a ha b hb z => hn (by rw [List.mem_singleton.mp hb] at z; exact z ▸ ha)⟩
  · intro y hy
    rw [e] at hy
    rcases List.mem_append.mp hy with hy | hy
    · exact R.lt y hy
    · rw [List.mem_singleton.mp hy]; exact (List.getElem?_eq_some_iff.mp hk).1
  · intro y hy; rw [e]; exact List.mem_append_left _ (R.gb y hy)
  · intro y hy t ht
    rw [e] at hy
    rcases List.mem_append.mp hy with hy | hy
    · exact R.sd y hy t ht
    · rw [List.mem_singleton.mp hy] at ht; rw [hk] at ht; cases ht; exact hd
set_option tactic.hygienic true in
theorem pass_ok (hU : UOk U) (hg : OkG U.length g) (n : Nat) (T : ∀ k, k < U.length -> k ∉ g -> Th (n + 1) U (insN k g)) {S0 : Store} {m0 : List (List Nat × Nat)} :
    ∀ (ks : List Nat) (S : Store) (m : List (List Nat × Nat)) (fd : List (Nat × D)) (b : Bool) (num hw : Option D), (∀ k ∈ ks, k < U.length) -> RI S0 m0 g U i dn pn mn f S m fd ->
    ∃ S' m' fd' b' num' hw', forL (fun d σ => b_Search_reckoned_6 (callF C11 (n + 3)) (put σ 3 d)) (ks.map fun k => D.int (k : Nat)) (sgK i f g num b hw) S = .ok (.next (sgK i f g num' b' hw')) S' /\ RI S0 m0 g U i dn pn mn f S' m' fd' /\
      ((b' = b /\ fd' = fd /\ ∀ k ∈ ks, ∀ s, U[k]? = some s -> k ∉ fd.map (·.1) -> ¬ HowP U (gs U g) (gs U (fd.map (·.1))) s) \/ (b' = true /\ fd.length < fd'.length))
  | [], S, m, fd, b, num, hw, _, R => mk63 S m fd b num hw rfl R (.inl ⟨rfl, rfl, fun _ h => nomatch h⟩)
  | k :: ks, S, m, fd, b, num, hw, hk, R => by
    have hkl := hk k (List.mem_cons_self ..)
    have hks : U[k]? = some U[k] := List.getElem?_eq_getElem hkl
    generalize U[k] = s at hks
    have q : forL (fun d σ => b_Search_reckoned_6 (callF C11 (n + 3)) (put σ 3 d)) ((k :: ks).map fun k => D.int (k : Nat)) (sgK i f g num b hw) = bnd (calm (b_Search_reckoned_6 (callF C11 (n + 3)) (sgK i f g (some (.int (k : Nat))) b hw))) fun f => match f with
      | .next σ' => forL (fun d σ => b_Search_reckoned_6 (callF C11 (n + 3)) (put σ 3 d)) (ks.map fun k => D.int (k : Nat)) σ'
      | .ret v => ret (.ret v) := rfl
    have one : ∃ S' m' fd' b' hw', b_Search_reckoned_6 (callF C11 (n + 3)) (sgK i f g (some (.int (k : Nat))) b hw) S = .ok (.next (sgK i f g (some (.int (k : Nat))) b' hw')) S' /\ RI S0 m0 g U i dn pn mn f S' m' fd' /\
        ((b' = b /\ fd' = fd /\ (k ∉ fd.map (·.1) -> ¬ HowP U (gs U g) (gs U (fd.map (·.1))) s)) \/ (b' = true /\ fd.length < fd'.length)) := by
      unfold b_Search_reckoned_6
      have hc : cmpS .NotIn (lk (sgK i f g (some (.int (k : Nat))) b hw) 3) (lk (sgK i f g (some (.int (k : Nat))) b hw) 2) S = .ok (!decide (k ∈ fd.map (·.1))) S := nin_fd R.F k
      by_cases hin : k ∈ fd.map (·.1)
      · refine mk53 S m fd b hw ((seq_st (S1 := S) (σ := sgK i f g (some (.int (k : Nat))) b hw) ?_).trans rfl) R (.inl ⟨rfl, rfl, fun z => absurd hin z⟩)
        rw [ifM_st hc, decide_eq_true hin]; rfl
      · have hl16 : fd.length <= 100 := Nat.le_trans R.len (Nat.le_trans hU.len (by decide))
        refine ob34 (how_ok R.X hU hg R.F R.gb R.lt hl16 n hks T) fun S1 m1 d1 e1 Rs X1 x1 => ?_
        have F1 := R.F.step x1
        have R1 : RI S0 m0 g U i dn pn mn f S1 m1 fd := ⟨X1, F1, R.x.trans x1, R.new, R.nd, R.lt, R.gb, R.sd, R.gv⟩
        have e2 : oMeth C11 (callF C11 (n + 3)) (Str.ofString "how") (ret (.loc i)) (ret [gD g, .loc f, .int (k : Nat)]) S = .ok d1 S1 := (meth_ok _ _ R.X.sea.inst R.X.sea.ns (by decide +kernel) rfl).trans (calm_st e1)
        have go : ∀ (σ' : Sg) (S' : Store), b_Search_reckoned_4 (callF C11 (n + 3)) (sgK i f g (some (.int (k : Nat))) b (some d1)) S1 = .ok (.next σ') S' -> seqM (ifM (cmpS .NotIn (lk (sgK i f g (some (.int (k : Nat))) b hw) 3) (lk (sgK i f g (some (.int (k : Nat))) b hw) 2)) (b_Search_reckoned_5 (callF C11 (n + 3)) (sgK i f g (some (.int (k : Nat))) b hw)) (nxt (sgK i f g (some (.int (k : Nat))) b hw))) nxt S = .ok (.next σ') S' := fun σ' S' h => by
          refine (seq_st (S1 := S') (σ := σ') ?_).trans rfl
          rw [ifM_st hc, decide_eq_false hin, if_pos (show (!false) = true from rfl)]
          unfold b_Search_reckoned_5
          refine (seq_st (S1 := S1) (σ := sgK i f g (some (.int (k : Nat))) b (some d1)) ?_).trans h
          show bnd (oMeth C11 (callF C11 (n + 3)) (Str.ofString "how") (ret (.loc i)) (ret [gD g, .loc f, .int (k : Nat)])) (fun d => ret (Fl.next (put (sgK i f g (some (.int (k : Nat))) b hw) 5 d))) S = _
          rw [bnd_st e2]; rfl
        rcases isnot_res Rs with ⟨e3, h3⟩ | ⟨e3, h3, hv3⟩
        · refine mk53 S1 m1 fd b (some d1) (go _ _ ?_) R1 (.inl ⟨rfl, rfl, fun _ => h3⟩)
          unfold b_Search_reckoned_4
          refine (seq_st (S1 := S1) (σ := sgK i f g (some (.int (k : Nat))) b (some d1)) ?_).trans rfl
          exact (ifM_st (b := false) (S1 := S1) (congrFun e3 S1)).trans rfl
        · have hder : Der U (gs U g) s := how_sound (fun y hy => let ⟨j, hj, e⟩ := gs_mem.mp hy; R.sd j hj y e) (List.mem_of_getElem? hks) h3
          refine mk53 _ m1 (fd ++ [(k, d1)]) true (some d1) (go (sgK i f g (some (.int (k : Nat))) true (some d1)) _ ?_) (R1.more hks hin d1 hder hv3) (.inr ⟨rfl, by simp⟩)
          unfold b_Search_reckoned_4
          refine (seq_st (S1 := S1.set f (.tab false (tI (fd ++ [(k, d1)])))) (σ := sgK i f g (some (.int (k : Nat))) true (some d1)) ?_).trans rfl
          refine (ifM_st (b := true) (S1 := S1) (congrFun e3 S1)).trans ?_
          rw [if_pos rfl]
          unfold b_Search_reckoned_3
          refine (seq_st (S1 := S1.set f (.tab false (tI (fd ++ [(k, d1)])))) (σ := sgK i f g (some (.int (k : Nat))) b (some d1)) ?_).trans rfl
          show bnd (setItemM (.loc f) (.int (k : Nat)) d1) (fun _ => ret (Fl.next _)) S1 = _
          rw [bnd_st (set_tab F1.at' (key_i k) (by rw [tI_len]; omega)), tI_put hin]; rfl
    refine ob53 one fun S1 m1 fd1 b1 hw1 e1 R1 c1 => ?_; clear one
    refine ob63 (pass_ok hU hg n T ks S1 m1 fd1 b1 (some (.int (k : Nat))) hw1 (fun k h => hk k (List.mem_cons_of_mem _ h)) R1) fun S2 m2 fd2 b2 num2 hw2 e2 R2 c2 => ?_
    refine mk63 S2 m2 fd2 b2 num2 hw2 ?_ R2 ?_
    · rw [q, bnd_st (calm_st e1)]; exact e2
    · rcases c1 with ⟨a1, a2, a3⟩ | ⟨a1, a2⟩
      · rcases c2 with ⟨d1, d2, d3⟩ | ⟨d1, d2⟩
        · refine .inl ⟨d1.trans a1, d2.trans a2, fun y hy t ht hn => ?_⟩
          rcases List.mem_cons.mp hy with rfl | hy
          · rw [hks] at ht; cases ht; exact a3 hn
          · rw [a2] at d3; exact d3 y hy t ht hn
        · exact .inr ⟨d1, by rw [a2] at d2; exact d2⟩
      · rcases c2 with ⟨d1, d2, d3⟩ | ⟨d1, d2⟩
        · exact .inr ⟨d1.trans a1, by rw [d2]; exact a2⟩
        · exact .inr ⟨d1, Nat.lt_trans a2 d2⟩
end
end L11
end Mine
end

section
namespace Mine
open PySem
theorem items_rng (n : Nat) (h : n <= 1000) : itemsOf (.range 0 (n : Int)) = some ((List.range n).map fun k => D.int (k : Nat)) := by
  rw [items_range h]
  unfold rangeL
  simp
namespace L11
section
variable {S : Store} {i dn pn mn f : Nat} {U : List Sx} {m : List (List Nat × Nat)} {fd : List (Nat × D)} {g : List Nat}
theorem fill_all (hU : UOk U) (hg : OkG U.length g) (n : Nat) (T : ∀ k, k < U.length -> k ∉ g -> Th (n + 1) U (insN k g)) {S0 : Store} {m0 : List (List Nat × Nat)} :
    ∀ (N t : Nat) (S : Store) (m : List (List Nat × Nat)) (fd : List (Nat × D)) (num hw : Option D), U.length - fd.length <= N -> N + 2 <= t -> RI S0 m0 g U i dn pn mn f S m fd ->
    ∃ S' m' fd' num' hw', whileL (w_Search_reckoned_1 (callF C11 (n + 3))) (b_Search_reckoned_8 (callF C11 (n + 3))) t (sgK i f g num true hw) S = .ok (.next (sgK i f g num' false hw')) S' /\ RI S0 m0 g U i dn pn mn f S' m' fd' /\
      ∀ x ∈ U, x ∉ gs U (fd'.map (·.1)) -> ¬ HowP U (gs U g) (gs U (fd'.map (·.1))) x := by
  intro N
  induction N with
  | zero =>
    intro t S m fd num hw hN ht R
    match t, ht with
    | t + 2, _ =>
      refine ob63 (pass_ok (i := i) (dn := dn) (pn := pn) (mn := mn) (f := f) (S0 := S0) (m0 := m0) hU hg n T (List.range U.length) S m fd false num hw (fun k h => List.mem_range.mp h) R) fun S1 m1 fd1 b1 num1 hw1 e1 R1 c1 => ?_
      rcases c1 with ⟨a1, a2, a3⟩ | ⟨a1, a2⟩
      · subst a1; subst a2
        refine mk53 S1 m1 fd1 num1 hw1 ?_ R1 (fun x hx hn => ?_)
        · have hb : b_Search_reckoned_8 (callF C11 (n + 3)) (sgK i f g num true hw) S = .ok (.next (sgK i f g num1 false hw1)) S1 := by
            unfold b_Search_reckoned_8
            refine (seq_st (S1 := S) (σ := sgK i f g num false hw) rfl).trans ?_
            unfold b_Search_reckoned_7
            refine (seq_st (S1 := S1) (σ := sgK i f g num1 false hw1) ?_).trans rfl
            show bnd (bnd (bnd (bnd (bnd (attrM C11 (.loc i) (Str.ofString "order")) fun d => bnd (ret []) fun ds => ret (d :: ds)) fun ds => bf0 .len ds) fun d => bnd (ret []) fun ds => ret (d :: ds)) fun ds => bf0 .range ds) (fun it => bnd (optM (itemsOf it)) fun ds => forL _ ds _) S = _
            rw [bnd_assoc, bnd_assoc, bnd_assoc, bnd_assoc, bnd_st R.X.sea.order]
            show bnd (optM (itemsOf (.range 0 ((U.map enc).length : Int)))) _ S = _
            rw [List.length_map, items_rng _ (Nat.le_trans hU.len (by decide))]
            exact e1
          show bnd (w_Search_reckoned_1 (callF C11 (n + 3)) (sgK i f g num true hw)) _ S = _
          rw [bnd_st (show w_Search_reckoned_1 (callF C11 (n + 3)) (sgK i f g num true hw) S = .ok true S from rfl), if_pos rfl, bnd_st (calm_st hb)]
          rfl
        · refine ob11 (idx_of hx) fun k hk => ?_
          exact a3 k (List.mem_range.mpr (List.getElem?_eq_some_iff.mp hk).1) x hk fun z => hn ((gs_idx hU.nd hk).mpr z)
      · have := R1.len; lia
  | succ N ih =>
    intro t S m fd num hw hN ht R
    match t, ht with
    | t + 1, ht =>
      refine ob63 (pass_ok (i := i) (dn := dn) (pn := pn) (mn := mn) (f := f) (S0 := S0) (m0 := m0) hU hg n T (List.range U.length) S m fd false num hw (fun k h => List.mem_range.mp h) R) fun S1 m1 fd1 b1 num1 hw1 e1 R1 c1 => ?_
      have hb : b_Search_reckoned_8 (callF C11 (n + 3)) (sgK i f g num true hw) S = .ok (.next (sgK i f g num1 b1 hw1)) S1 := by
        unfold b_Search_reckoned_8
        refine (seq_st (S1 := S) (σ := sgK i f g num false hw) rfl).trans ?_
        unfold b_Search_reckoned_7
        refine (seq_st (S1 := S1) (σ := sgK i f g num1 b1 hw1) ?_).trans rfl
        show bnd (bnd (bnd (bnd (bnd (attrM C11 (.loc i) (Str.ofString "order")) fun d => bnd (ret []) fun ds => ret (d :: ds)) fun ds => bf0 .len ds) fun d => bnd (ret []) fun ds => ret (d :: ds)) fun ds => bf0 .range ds) (fun it => bnd (optM (itemsOf it)) fun ds => forL _ ds _) S = _
        rw [bnd_assoc, bnd_assoc, bnd_assoc, bnd_assoc, bnd_st R.X.sea.order]
        show bnd (optM (itemsOf (.range 0 ((U.map enc).length : Int)))) _ S = _
        rw [List.length_map, items_rng _ (Nat.le_trans hU.len (by decide))]
        exact e1
      have hw' : ∀ X : Out Fl, whileL (w_Search_reckoned_1 (callF C11 (n + 3))) (b_Search_reckoned_8 (callF C11 (n + 3))) t (sgK i f g num1 b1 hw1) S1 = X -> whileL (w_Search_reckoned_1 (callF C11 (n + 3))) (b_Search_reckoned_8 (callF C11 (n + 3))) (t + 1) (sgK i f g num true hw) S = X := fun X h => by
        show bnd (w_Search_reckoned_1 (callF C11 (n + 3)) (sgK i f g num true hw)) _ S = _
        rw [bnd_st (show w_Search_reckoned_1 (callF C11 (n + 3)) (sgK i f g num true hw) S = .ok true S from rfl), if_pos rfl, bnd_st (calm_st hb)]
        exact h
      rcases c1 with ⟨a1, a2, a3⟩ | ⟨a1, a2⟩
      · subst a1; subst a2
        refine mk53 S1 m1 fd1 num1 hw1 (hw' _ ?_) R1 (fun x hx hn => ?_)
        · match t, ht with
          | t + 1, _ => rfl
        · refine ob11 (idx_of hx) fun k hk => ?_
          exact a3 k (List.mem_range.mpr (List.getElem?_eq_some_iff.mp hk).1) x hk fun z => hn ((gs_idx hU.nd hk).mpr z)
      · subst a1
        refine ob53 (ih t S1 m1 fd1 num1 hw1 (by lia) (by lia) R1) fun S2 m2 fd2 num2 hw2 e2 R2 c2 => ?_
        exact mk53 S2 m2 fd2 num2 hw2 (hw' _ e2) R2 c2
set_option tactic.hygienic true in
theorem given_ok (hU : UOk U) (hg : OkG U.length g) (cf : CF) :
    ∀ (r l : List Nat) (S : Store) (fd : List (Nat × D)) (num : Option D), g = l ++ r -> fd = (l.map fun k => (k, gvD)) -> St S i dn pn mn U m -> Fd S f mn m fd ->
    ∃ S' fd' num', forL (fun d σ => b_Search_reckoned_11 cf (put σ 3 d)) (r.map fun k => D.int (k : Nat)) [some (.loc i), some (gD g), some (.loc f), num, none, none, none, none] S = .ok (.next [some (.loc i), some (gD g), some (.loc f), num', none, none, none, none]) S' /\ fd' = (g.map fun k => (k, gvD)) /\ St S' i dn pn mn U m /\ Fd S' f mn m fd' /\ (∀ j, j ≠ f -> S'[j]? = S[j]?) /\ S'.length = S.length
  | [], l, S, fd, num, e, hl, X, F => mk36 S fd num rfl (by rw [hl, e, List.append_nil]) X F (fun _ _ => rfl) rfl
  | k :: r, l, S, fd, num, e, hl, X, F => by
    have hl0 := hl
    have hl : fd.map (·.1) = l := by rw [hl0, List.map_map]; exact List.map_id' l
    have hkl : k ∉ l := fun z => by
      have := hg.up
      rw [e, List.pairwise_append] at this
      exact Nat.lt_irrefl _ (this.2.2 k z k (List.mem_cons_self ..))
    have hn : k ∉ fd.map (·.1) := by rw [hl]; exact hkl
    have hz : fd.length <= 16 := by
      have h1 := OkG.len16 hU hg
      have h2 : fd.length = l.length := by rw [<- hl, List.length_map]
      have h3 : l.length <= g.length := by rw [e, List.length_append]; lia
      have := hU.len
      lia
    refine ob02 (X.put F (fd ++ [(k, .tuple [.str (Str.ofString "given"), .tuple []])])) fun X1 F1 => ?_
    have e1 : b_Search_reckoned_11 cf [some (.loc i), some (gD g), some (.loc f), some (.int (k : Nat)), none, none, none, none] S = .ok (.next [some (.loc i), some (gD g), some (.loc f), some (.int (k : Nat)), none, none, none, none]) (S.set f (.tab false (tI (fd ++ [(k, .tuple [.str (Str.ofString "given"), .tuple []])])))) := by
      unfold b_Search_reckoned_11
      refine (seq_st (S1 := S.set f (.tab false (tI (fd ++ [(k, .tuple [.str (Str.ofString "given"), .tuple []])])))) (σ := [some (.loc i), some (gD g), some (.loc f), some (.int (k : Nat)), none, none, none, none]) ?_).trans rfl
      show bnd (setItemM (.loc f) (.int (k : Nat)) (.tuple [.str (Str.ofString "given"), .tuple []])) (fun _ => ret (Fl.next _)) S = _
      rw [bnd_st (set_tab F.at' (key_i k) (by rw [tI_len]; lia)), tI_put hn]; rfl
    have em : fd ++ [(k, D.tuple [.str (Str.ofString "given"), .tuple []])] = (l ++ [k]).map fun k => (k, gvD) := by rw [List.map_append, hl0]; rfl
    refine ob36 (given_ok hU hg cf r (l ++ [k]) _ _ (some (.int (k : Nat))) (by rw [e]; simp) em X1 F1) fun S2 fd2 num2 e2 h2 X2 F2 k2 l2 => ?_
    refine mk36 S2 fd2 num2 ?_ h2 X2 F2 (fun j hj => (k2 j hj).trans (set_ne hj.symm)) (l2.trans (List.length_set ..))
    have q : forL (fun d σ => b_Search_reckoned_11 cf (put σ 3 d)) ((k :: r).map fun k => D.int (k : Nat)) [some (.loc i), some (gD g), some (.loc f), num, none, none, none, none] = bnd (calm (b_Search_reckoned_11 cf [some (.loc i), some (gD g), some (.loc f), some (.int (k : Nat)), none, none, none, none])) fun f => match f with
      | .next σ' => forL (fun d σ => b_Search_reckoned_11 cf (put σ 3 d)) (r.map fun k => D.int (k : Nat)) σ'
      | .ret v => ret (.ret v) := rfl
    rw [q, bnd_st (calm_st e1)]
    exact e2
theorem c_reck (n : Nat) (a b : D) : callF C11 (n + 1) (mname nmS (Str.ofString "reckoned")) [a, b] = s_Search_reckoned (callF C11 n) a b := by kernel_rfl
theorem reck_ok (X : St S i dn pn mn U m) (hU : UOk U) (hg : OkG U.length g) (n : Nat) (T : ∀ k, k < U.length -> k ∉ g -> Th (n + 1) U (insN k g)) :
    ∃ S' m', callF C11 (n + 4) (mname nmS (Str.ofString "reckoned")) [.loc i, gD g] S = .ok (.loc S.length) S' /\ St S' i dn pn mn U m' /\ TabOk S' S.length U g /\ Fr (g.length + 1) S S' mn m m' := by
  rw [c_reck]
  show ∃ S' m', finM (b_Search_reckoned_13 (callF C11 (n + 3)) [some (.loc i), some (gD g), none, none, none, none, none, none]) S = .ok (.loc S.length) S' /\ _
  refine ob36 (given_ok (f := S.length) hU hg (callF C11 (n + 3)) g [] (S ++ [.tab false []]) [] none rfl rfl (X.app _) (Fd.app X)) fun S1 fd1 num1 e1 h1 X1 F1 k1 l1 => ?_
  have h0 := h1
  have h1 : fd1.map (·.1) = g := by rw [h0, List.map_map]; exact List.map_id' g
  have R1 : RI S m g U i dn pn mn S.length S1 m fd1 := by
    refine ⟨X1, F1, ⟨fun j hj _ => (k1 j (Nat.ne_of_lt hj)).trans (List.getElem?_append_left hj), by rw [l1]; simp, fun _ h => .inl h, fun _ h => h⟩, Nat.le_refl _, ?_, ?_, ?_, ?_, ⟨[], by rw [h0, List.append_nil], fun l p q e => absurd (congrArg List.length e) (by simp)⟩⟩
    · rw [h1]; exact hg.up.imp fun h => Nat.ne_of_lt h
    · rw [h1]; exact hg.lt
    · intro y hy; rw [h1]; exact hy
    · intro y hy s hs; rw [h1] at hy; exact .ax (gs_mem.mpr ⟨y, hy, hs⟩)
  refine ob53 (fill_all (i := i) (dn := dn) (pn := pn) (mn := mn) (f := S.length) (S0 := S) (m0 := m) hU hg n T U.length (2 ^ 30) S1 m fd1 num1 none (Nat.sub_le ..) (Nat.le_trans (Nat.add_le_add_right hU.len 2) (by decide)) R1) fun S2 m2 fd2 num2 hw2 e2 R2 c2 => ?_
  refine mk24 S2 m2 ?_ R2.X ⟨fd2, R2.F.at', fun j s hs => ?_, R2.gv, R2.nd, R2.lt⟩ R2.x
  · unfold b_Search_reckoned_13
    refine (fin_put (d := .loc S.length) (S1 := S ++ [.tab false []]) rfl).trans ?_
    unfold b_Search_reckoned_12
    refine (go_st (σ := [some (.loc i), some (gD g), some (.loc S.length), num1, none, none, none, none]) (S1 := S1) e1).trans ?_
    unfold b_Search_reckoned_10
    refine (fin_put (d := .bool true) (S1 := S1) rfl).trans ?_
    unfold b_Search_reckoned_9
    refine (go_st (σ := sgK i S.length g num2 false hw2) (S1 := S2) e2).trans rfl
  · have hs' := gs_idx (l := fd2.map (·.1)) hU.nd hs
    constructor
    · exact fun h => R2.sd j h s hs
    · intro d
      refine hs'.mp (fix_all hU.cl gs_U (fun x hx => ?_) (fun x hx => ?_) c2 s d)
      · refine ob12 (gs_mem.mp hx) fun y hy e => ?_
        exact gs_mem.mpr ⟨y, R2.gb y hy, e⟩
      · refine ob12 (gs_mem.mp hx) fun y hy e => ?_
        exact R2.sd y hy x e
theorem c_theory (n : Nat) (a b : D) : callF C11 (n + 1) (mname nmS (Str.ofString "theory_from")) [a, b] = s_Search_theory_from (callF C11 n) a b := by kernel_rfl
set_option tactic.hygienic true in
theorem theory_step (hU : UOk U) (hg : OkG U.length g) (n : Nat) (T : ∀ k, k < U.length -> k ∉ g -> Th (n + 1) U (insN k g)) : Th (n + 5) U g := by
  intro S i dn pn mn m X
  rw [c_theory]
  show ∃ S' m' t, finM (b_Search_theory_from_2 (callF C11 (n + 4)) [some (.loc i), some (gD g)]) S = .ok (.loc t) S' /\ _
  have hlen := X.md.len hU.len
  refine ob02 (tM_at m g) fun ta tb => ?_
  cases ht : tabAt (tM m) (kg g) with
  | some d =>
    refine ob12 (ta d ht) fun t hmem er1 => ?_; subst er1
    refine mk35 S m t ?_ X ((X.md.ok _ hmem).2) (Fr.refl ..) hmem
    unfold b_Search_theory_from_2
    refine (fin_if (b := false) (S1 := S) ?_).trans ?_
    · show bnd (attrM C11 (.loc i) (Str.ofString "made")) (fun b => cmpM .NotIn (gD g) b) S = _
      rw [bnd_st X.sea.made, nin_tab X.sea.md (key_g g), ht]; rfl
    · rw [if_neg Bool.false_ne_true, fin_nxt]
      unfold b_Search_theory_from_0
      refine fin_ret_st ?_
      show bnd (attrM C11 (.loc i) (Str.ofString "made")) (fun a => itemM a (gD g)) S = _
      rw [bnd_st X.sea.made, item_tab X.sea.md (key_g g) ht]
  | none =>
    have hnm := tb ht
    refine ob24 (reck_ok X hU hg n T) fun S1 m1 e1 X1 TO x1 => ?_
    have hn1 : g ∉ m1.map (·.1) := fun z => by
      refine ob12 (List.mem_map.mp z) fun p hp er1 => ?_; subst er1
      rcases x1.new p hp with q | q
      · exact hnm (List.mem_map.mpr ⟨p, q, rfl⟩)
      · have := q.2; lia
    have hat1 : tabAt (tM m1) (kg g) = none := by
      cases h : tabAt (tM m1) (kg g) with
      | none => rfl
      | some d =>
        refine ob12 ((tM_at m1 g).1 d h) fun t hmem _ => ?_
        exact absurd (List.mem_map.mpr ⟨_, hmem, rfl⟩) hn1
    have hlen1 := X1.md.len hU.len
    have hput : tabPut (tM m1) (kg g) (.loc S.length) = tM (m1 ++ [(g, S.length)]) := by
      rw [put_new hat1]; unfold tM; rw [List.map_append]; rfl
    have es : setItemM (.loc mn) (gD g) (.loc S.length) S1 = .ok () (S1.set mn (.tab true (tM (m1 ++ [(g, S.length)])))) := by
      rw [set_tab X1.sea.md (key_g g) (by unfold tM; rw [List.length_map]; lia), hput]
    have ne : ∀ {j : Nat} {l : List (Kd × D)}, S1[j]? = some (.tab false l) -> mn ≠ j := fun h e => by
      have := X1.sea.md; rw [e, h] at this; cases this
    have keep : ∀ j o, j ≠ mn -> S1[j]? = some o -> (S1.set mn (.tab true (tM (m1 ++ [(g, S.length)]))))[j]? = some o := fun j o h e => by rw [set_ne h.symm]; exact e
    have tabs : ∀ {t : Nat} {g' : List Nat}, TabOk S1 t U g' -> TabOk (S1.set mn (.tab true (tM (m1 ++ [(g, S.length)])))) t U g' := fun h => let ⟨fd, e, r⟩ := h.ex; ⟨fd, keep _ _ (ne e).symm e, r⟩
    have X2 : St (S1.set mn (.tab true (tM (m1 ++ [(g, S.length)])))) i dn pn mn U (m1 ++ [(g, S.length)]) := by
      refine ⟨⟨keep _ _ X1.sea.ne1.symm X1.sea.inst, keep _ _ X1.sea.ne2.symm X1.sea.ns, keep _ _ X1.sea.ne3.symm X1.sea.pl, set_at X1.sea.md, X1.sea.ne1, X1.sea.ne2, X1.sea.ne3⟩, ⟨?_, fun p hp => ?_⟩⟩
      · rw [List.map_append]
        exact List.nodup_append.mpr ⟨X1.md.nd, by simp, fun a ha b hb z => hn1 (by
          rw [List.map_cons, List.map_nil, List.mem_singleton] at hb
          have z' : a = g := z.trans hb
          rw [<- z']; exact ha)⟩
      · rcases List.mem_append.mp hp with hp | hp
        · exact ⟨(X1.md.ok p hp).1, tabs (X1.md.ok p hp).2⟩
        · rw [List.mem_singleton.mp hp]; exact ⟨hg, tabs TO⟩
    refine mk35 _ (m1 ++ [(g, S.length)]) S.length ?_ X2 (tabs TO) ⟨fun j hj hm => ?_, ?_, fun p hp => ?_, fun p hp => List.mem_append_left _ (x1.old p hp)⟩ (List.mem_append_right _ (List.mem_singleton.mpr rfl))
    · unfold b_Search_theory_from_2
      refine (fin_if (b := true) (S1 := S) ?_).trans ?_
      · show bnd (attrM C11 (.loc i) (Str.ofString "made")) (fun b => cmpM .NotIn (gD g) b) S = _
        rw [bnd_st X.sea.made, nin_tab X.sea.md (key_g g), ht]; rfl
      · rw [if_pos rfl]
        unfold b_Search_theory_from_1
        rw [fin_seq]
        refine (go_st (σ := [some (.loc i), some (gD g)]) (S1 := S1.set mn (.tab true (tM (m1 ++ [(g, S.length)])))) ?_).trans ?_
        · show bnd (oMeth C11 (callF C11 (n + 4)) (Str.ofString "reckoned") (ret (.loc i)) (ret [gD g])) (fun d => bnd (attrM C11 (.loc i) (Str.ofString "made")) fun a => bnd (setItemM a (gD g) d) fun _ => ret (Fl.next _)) S = _
          rw [bnd_st ((meth_ok _ _ X.sea.inst X.sea.ns (by decide +kernel) rfl).trans (calm_st e1)), bnd_st X1.sea.made, bnd_st es]; rfl
        · rw [fin_nxt]
          unfold b_Search_theory_from_0
          refine fin_ret_st ?_
          show bnd (attrM C11 (.loc i) (Str.ofString "made")) (fun a => itemM a (gD g)) _ = _
          have hat2 : tabAt (tM (m1 ++ [(g, S.length)])) (kg g) = some (.loc S.length) := by
            have : tM (m1 ++ [(g, S.length)]) = tM m1 ++ [(kg g, .loc S.length)] := by unfold tM; rw [List.map_append]; rfl
            rw [this, tabAt_app, hat1, tabAt_cons, if_pos rfl]; rfl
          rw [bnd_st X2.sea.made, item_tab X2.sea.md (key_g g) hat2]
    · rw [set_ne (Ne.symm hm)]; exact x1.keep j hj hm
    · rw [List.length_set]; exact x1.len
    · rcases List.mem_append.mp hp with hp | hp
      · rcases x1.new p hp with q | q
        · exact .inl q
        · exact .inr ⟨q.1, Nat.le_trans (Nat.le_succ _) q.2⟩
      · rw [List.mem_singleton.mp hp]; exact .inr ⟨Nat.le_refl _, Nat.le_refl _⟩
theorem theory_ok (hU : UOk U) : ∀ (l : Nat) (g : List Nat), OkG U.length g -> U.length <= g.length + l -> ∀ n, 4 * l + 8 <= n -> Th n U g := by
  intro l
  induction l with
  | zero =>
    intro g hg hl n hn
    obtain ⟨k, rfl⟩ : ∃ k, n = k + 5 := mk11 (n - 5) (by lia)
    refine theory_step hU hg k fun j hj hng => ?_
    have := OkG.len16 hU (hg.ins hj hng)
    rw [insN_len] at this
    lia
  | succ l ih =>
    intro g hg hl n hn
    obtain ⟨k, rfl⟩ : ∃ k, n = k + 5 := mk11 (n - 5) (by lia)
    refine theory_step hU hg k fun j hj hng => ih (insN j g) (hg.ins hj hng) (by rw [insN_len]; lia) (k + 1) (by lia)
end
end L11
end Mine
end

section
namespace Mine
open PySem
theorem dep_pos (s : Sx) : 1 <= s.dep := by cases s <;> simp [Sx.dep]
theorem sz_dep : ∀ s : Sx, s.sz < 2 ^ s.dep
  | .nm _ => (by decide : 1 < 2 ^ 1)
  | .fls => (by decide : 1 < 2 ^ 1)
  | .bin w p q => by
    show p.sz + q.sz + 1 < 2 ^ (max p.dep q.dep + 1)
    have h1 := sz_dep p
    have h2 := sz_dep q
    have h3 : 2 ^ p.dep <= 2 ^ max p.dep q.dep := Nat.pow_le_pow_right (by decide) (Nat.le_max_left ..)
    have h4 : 2 ^ q.dep <= 2 ^ max p.dep q.dep := Nat.pow_le_pow_right (by decide) (Nat.le_max_right ..)
    rw [Nat.pow_succ]
    lia
noncomputable def Bd (k : Nat) (s : Sx) : Prop := ∃ K : List Sx, SubCl K /\ s ∈ K /\ K.length <= k
theorem Bd.pl {k : Nat} {s : Sx} (h : Bd k s) : (pl s []).length <= k := by
  refine ob13 h fun K h1 h2 h3 => ?_; clear h
  exact Nat.le_trans (nodup_le (pl_nodup s [] List.nodup_nil) (pl_in h1 s [] h2 fun _ m => nomatch m)) h3
theorem cl_cons {K : List Sx} {s : Sx} (h : SubCl K) (hs : ∀ w p q, s = .bin w p q -> p ∈ K /\ q ∈ K) : SubCl (s :: K) := fun w p q m => by
  rcases List.mem_cons.mp m with e | m
  · exact ⟨List.mem_cons_of_mem _ (hs w p q e.symm).1, List.mem_cons_of_mem _ (hs w p q e.symm).2⟩
  · exact ⟨List.mem_cons_of_mem _ (h w p q m).1, List.mem_cons_of_mem _ (h w p q m).2⟩
theorem cl_bin {K : List Sx} {w : W3} {p q : Sx} (h : SubCl K) (hp : p ∈ K) (hq : q ∈ K) : SubCl (.bin w p q :: K) := cl_cons h fun _ _ _ e => by cases e; exact ⟨hp, hq⟩
theorem cl_nm {K : List Sx} {x : Str} (h : SubCl K) : SubCl (.nm x :: K) := cl_cons h fun _ _ _ e => by cases e
theorem cl_fls {K : List Sx} (h : SubCl K) : SubCl (.fls :: K) := cl_cons h fun _ _ _ e => by cases e
theorem cl_nil : SubCl [] := fun _ _ _ m => nomatch m
namespace L11
theorem c_shown (n : Nat) (a : D) : callF C11 (n + 1) (Str.ofString "is_shown") [a] = s_is_shown (callF C11 n) a := by kernel_rfl
theorem shown_ok (s : Sx) (h8 : s.dep <= 8) (h16 : (pl s []).length <= 16) (n : Nat) (hn : 80 <= n) (S : Store) : ∃ b S', callF C11 (n + 1) (Str.ofString "is_shown") [enc s] S = .ok (.bool b) S' /\ (b = true ↔ Vd s) := by
  have hz : s.sz <= 900 := by
    have h1 := sz_dep s
    have h2 : 2 ^ s.dep <= 2 ^ 8 := Nat.pow_le_pow_right (by decide) h8
    have h3 : (2 : Nat) ^ 8 = 256 := by decide
    lia
  have hU := pl_uok s h8 h16
  obtain ⟨k, rfl⟩ : ∃ k, n = k + 2 := mk11 (n - 2) (by lia)
  have X : St (made0 S (pl s [])) (S.length + 1) S.length (S.length + 3) (S.length + 4) (pl s []) [] := ⟨made0_sea S _, ⟨by simp, fun _ h => nomatch h⟩⟩
  have hg : OkG (pl s []).length [] := ⟨List.Pairwise.nil, fun _ h => nomatch h⟩
  obtain ⟨S', m', t, e1, X', ⟨fd, ef, hf, _⟩, x, _⟩ := call_th X (theory_ok hU 16 [] hg (by simpa using h16) (k + 2) (by lia))
  refine ob11 (idx_of (pl_self s [])) fun j hj => ?_
  refine mk22 (decide (j ∈ fd.map (·.1))) S' ?_ ?_
  · rw [c_shown]
    show finM (b_is_shown_1 (callF C11 (k + 2)) [some (enc s), none, none]) S = _
    unfold b_is_shown_1
    refine (fin_put (d := .loc (S.length + 1)) (S1 := made0 S (pl s [])) (new_ok s k S (by lia) h8 hz h16)).trans ?_
    unfold b_is_shown_0
    refine fin_ret_st ?_
    have e2 : itemM (.loc (S.length + 3)) (enc s) (made0 S (pl s [])) = .ok (.int (j : Nat)) (made0 S (pl s [])) := by
      have := item_tab X.sea.pl (key_enc h8) (ptab_at (pl s []) 0 j s hU.nd hj)
      rw [this, Nat.zero_add]
    show bnd (bnd (attrM C11 (.loc (S.length + 1)) (Str.ofString "places")) fun a => itemM a (enc s)) (fun a => bnd (bnd (oMeth C11 (callF C11 (k + 2)) (Str.ofString "theory_from") (ret (.loc (S.length + 1))) (ret [gD []])) fun b => cmpM .In a b) fun c => ret (D.bool c)) _ = _
    rw [bnd_assoc, bnd_st X.sea.places, bnd_st e2, bnd_assoc, bnd_st e1, bnd_st (in_tab ef (key_i j)), tI_some]
    rfl
  · rw [decide_eq_true_iff, hf j s hj]
    exact der_iff hU.cl (pl_self s [])
end L11
end Mine
end

section
namespace Mine
open PySem
noncomputable def kn (k : List Nat × Nat) : Kd := .tup [kg k.1, .int (k.2 : Nat)]
theorem key_n (k : List Nat × Nat) : tabKey true (cD k) = some (kn k) := by
  have e0 : kdIn (gD k.1) = some (kg k.1) := by
    show (kdIns (k.1.map fun j => D.int (j : Nat))).map Kd.tup = _
    rw [kdIns_g]; rfl
  have e : kdOf (cD k) = some (kn k) := by
    have e1 : kdIns [gD k.1, .int (k.2 : Nat)] = some [kg k.1, .int (k.2 : Nat)] := by
      simp only [kdIns, e0]
      rfl
    show (kdIns [gD k.1, .int (k.2 : Nat)]).map Kd.tup = _
    rw [e1]; rfl
  unfold tabKey
  rw [e]
  dsimp only
  refine if_pos ?_
  show decide (max (Kd.deps (k.1.map fun j => Kd.int (j : Nat)) + 1) (max 0 0) + 1 <= 8) = true
  rw [deps_g]; rfl
theorem kn_inj {a b : List Nat × Nat} (h : kn a = kn b) : a = b := by
  have h1 := Kd.tup.inj' h
  have h2 := (List.cons.inj h1).1
  have h3 := (List.cons.inj (List.cons.inj h1).2).1
  exact Prod.ext (kg_inj h2) (int_inj h3)
noncomputable def tN (nt : List ((List Nat × Nat) × Nat)) : List (Kd × D) := nt.map fun p => (kn p.1, .int (p.2 : Nat))
theorem tN_len (nt : List ((List Nat × Nat) × Nat)) : (tN nt).length = nt.length := by unfold tN; rw [List.length_map]
theorem tN_some (nt : List ((List Nat × Nat) × Nat)) (k : List Nat × Nat) : (tabAt (tN nt) (kn k)).isSome = decide (k ∈ nt.map (·.1)) := by
  induction nt with
  | nil => rfl
  | cons p nt ih =>
    show (tabAt ((kn p.1, D.int (p.2 : Nat)) :: tN nt) _).isSome = _
    rw [tabAt_cons]
    by_cases h : p.1 = k
    · rw [if_pos (by show kn p.1 = _; rw [h])]
      simp [h]
    · rw [if_neg fun e => h (kn_inj e), ih]
      have : ¬ k = p.1 := fun e => h e.symm
      simp [this]
theorem tN_none {nt : List ((List Nat × Nat) × Nat)} {k : List Nat × Nat} (h : k ∉ nt.map (·.1)) : tabAt (tN nt) (kn k) = none := by
  have := tN_some nt k
  rw [decide_eq_false h] at this
  cases e : tabAt (tN nt) (kn k) with
  | none => rfl
  | some d => rw [e] at this; cases this
theorem tN_get {nt : List ((List Nat × Nat) × Nat)} {k : List Nat × Nat} (h : k ∈ nt.map (·.1)) : ∃ d, tabAt (tN nt) (kn k) = some d := by
  have := tN_some nt k
  rw [decide_eq_true h] at this
  exact Option.isSome_iff_exists.mp this
theorem tN_put {nt : List ((List Nat × Nat) × Nat)} {k : List Nat × Nat} (h : k ∉ nt.map (·.1)) (v : Nat) : tabPut (tN nt) (kn k) (.int (v : Nat)) = tN (nt ++ [(k, v)]) := by
  rw [put_new (tN_none h)]; unfold tN; rw [List.map_append]; rfl
noncomputable def allP (n : Nat) : List (List Nat × Nat) := (allG n).flatMap fun g => (List.range n).map fun j => (g, j)
theorem allP_len (n : Nat) : (allP n).length = 2 ^ n * n := by
  have h : ∀ L : List (List Nat), (L.flatMap fun g => (List.range n).map fun j => (g, j)).length = L.length * n := by
    intro L
    induction L with
    | nil => simp
    | cons a L ih => rw [List.flatMap_cons, List.length_append, ih, List.length_map, List.length_range, List.length_cons, Nat.succ_mul]; lia
  unfold allP
  rw [h, allG_len]
theorem allP_mem {n : Nat} {k : List Nat × Nat} (h1 : OkG n k.1) (h2 : k.2 < n) : k ∈ allP n :=
  List.mem_flatMap.mpr ⟨k.1, allG_mem n _ h1, List.mem_map.mpr ⟨k.2, List.mem_range.mpr h2, rfl⟩⟩
theorem app_go {S S1 : Store} {u : Nat} {us : List D} {d : D} {m : EM (List D)} (h : S[u]? = some (.list us)) (hm : m S = .ok [d] S1) (h1 : S1[u]? = some (.list us)) (hz : us.length < 16777216) : methS mAppend (ret (.loc u)) m S = .ok .none (S1.set u (.list (us ++ [d]))) := by
  show bnd (methK mAppend (.loc u)) (fun _ => bnd m fun ds => mAppend.run (.loc u) ds) S = _
  have hok : mAppend.ok S (.loc u) = true := by
    show isLocL S (.loc u) = true
    unfold isLocL; dsimp only; rw [h]
  rw [bnd_st (a := ()) (S1 := S) (by unfold methK; rw [if_pos hok]), bnd_st hm]
  show appendM (.loc u) d S1 = _
  unfold appendM
  dsimp only
  rw [h1]
  dsimp only
  rw [if_pos (show us.length < sizeLine from hz)]; rfl
namespace L11
structure PS (S : Store) (r q mn pn : Nat) (U : List Sx) (nt : List ((List Nat × Nat) × Nat)) (rs : List D) : Prop where
  rows : S[r]? = some (.list rs)
  nums : S[q]? = some (.tab true (tN nt))
  q1 : q ≠ mn
  q2 : q ≠ pn
  nd : (nt.map (·.1)).Nodup
  ks : ∀ k ∈ nt.map (·.1), OkG U.length k.1 /\ k.2 < U.length
  ln : rs.length <= nt.length
structure Pw (S S' : Store) (r q mn u : Nat) (m m' : List (List Nat × Nat)) (nt nt' : List ((List Nat × Nat) × Nat)) (N : List Nat × Nat -> Prop) : Prop where
  keep : ∀ j, j < S.length -> j ≠ mn -> j ≠ r -> j ≠ q -> j ≠ u -> S'[j]? = S[j]?
  len : S.length <= S'.length
  old : ∀ p ∈ m, p ∈ m'
  new : ∀ k ∈ nt'.map (·.1), k ∈ nt.map (·.1) \/ N k
noncomputable def Nn (g ks : List Nat) (k : List Nat × Nat) : Prop := g.length < k.1.length \/ (k.1 = g /\ k.2 ∈ ks)
section
variable {S S' S1 : Store} {i dn pn mn r q u t : Nat} {U : List Sx} {m m' m1 : List (List Nat × Nat)} {nt nt' nt1 : List ((List Nat × Nat) × Nat)} {rs rs' : List D} {g : List Nat} {N N' : List Nat × Nat -> Prop}
theorem Pw.refl : Pw S S r q mn u m m nt nt N := ⟨fun _ _ _ _ _ _ => rfl, Nat.le_refl _, fun _ h => h, fun _ h => .inl h⟩
theorem Pw.trans (a : Pw S S1 r q mn u m m1 nt nt1 N) (b : Pw S1 S' r q mn u m1 m' nt1 nt' N) : Pw S S' r q mn u m m' nt nt' N :=
  ⟨fun j h h1 h2 h3 h4 => (b.keep j (Nat.lt_of_lt_of_le h a.len) h1 h2 h3 h4).trans (a.keep j h h1 h2 h3 h4), Nat.le_trans a.len b.len, fun p h => b.old p (a.old p h), fun k h => by
    rcases b.new k h with h | h
    · exact a.new k h
    · exact .inr h⟩
theorem Pw.mono (a : Pw S S' r q mn mn m m' nt nt' N) (h : ∀ k, N k -> N' k) : Pw S S' r q mn u m m' nt nt' N' :=
  ⟨fun j h h1 h2 h3 _ => a.keep j h h1 h2 h3 h1, a.len, a.old, fun k hk => (a.new k hk).imp_right (h k)⟩
theorem Pw.shut (a : Pw S S' r q mn u m m' nt nt' N) {S0 : Store} (h0 : ∀ j, j < S0.length -> S[j]? = S0[j]?) (hl : S0.length <= S.length) (hu : S0.length <= u) : Pw S0 S' r q mn mn m m' nt nt' N :=
  ⟨fun j h h1 h2 h3 _ => (a.keep j (Nat.lt_of_lt_of_le h hl) h1 h2 h3 (by lia)).trans (h0 j h), Nat.le_trans hl a.len, a.old, a.new⟩
theorem Fr.pw {L : Nat} (x : Fr L S S' mn m m') : Pw S S' r q mn mn m m' nt nt N := ⟨fun j h h1 _ _ _ => x.keep j h h1, x.len, x.old, fun _ h => .inl h⟩
theorem PS.ne (P : PS S r q mn pn U nt rs) {j : Nat} {o : SObj} (h : S[j]? = some o) (ho : ∀ l, o ≠ .list l) : r ≠ j := fun e => by
  have := P.rows; rw [e, h] at this; exact ho _ (Option.some.inj this)
theorem PS.step {L : Nat} (P : PS S r q mn pn U nt rs) (X : St S i dn pn mn U m) (x : Fr L S S' mn m m') : PS S' r q mn pn U nt rs :=
  ⟨(x.keep r (get_lt P.rows) (P.ne X.sea.md fun _ h => by cases h)).trans P.rows, (x.keep q (get_lt P.nums) P.q1).trans P.nums, P.q1, P.q2, P.nd, P.ks, P.ln⟩
theorem PS.len (P : PS S r q mn pn U nt rs) (hU : U.length <= 16) : nt.length <= 1048576 := by
  have h1 := P.nd.length_le_of_subset (l₂ := allP U.length) fun k hk => allP_mem (P.ks k hk).1 (P.ks k hk).2
  rw [allP_len, List.length_map] at h1
  have h2 : 2 ^ U.length <= 2 ^ 16 := Nat.pow_le_pow_right (by decide) hU
  have h3 := Nat.mul_le_mul h2 hU
  have h4 : (2 : Nat) ^ 16 * 16 = 1048576 := by decide
  lia
theorem St.lst (X : St S i dn pn mn U m) {us : List D} (h : S[u]? = some (.list us)) (o : SObj) : St (S.set u o) i dn pn mn U m := by
  have ne : ∀ {j : Nat} {p : SObj}, S[j]? = some p -> (∀ l, p ≠ .list l) -> u ≠ j := fun h' q e => by
    rw [e, h'] at h; exact q _ (Option.some.inj h)
  refine X.but (f := u) (fun j p n e => ?_) (ne X.sea.inst fun _ h => by cases h) (ne X.sea.ns fun _ h => by cases h) (ne X.sea.pl fun _ h => by cases h) (ne X.sea.md fun _ h => by cases h) fun p hp => ?_
  · rw [set_ne n.symm]; exact e
  · refine ob12 ((X.md.ok p hp).2.ex) fun _ e _ => ?_
    exact (ne e fun _ h => by cases h).symm
theorem St.nums (X : St S i dn pn mn U m) {T : List (Kd × D)} (h : S[q]? = some (.tab true T)) (h1 : q ≠ mn) (h2 : q ≠ pn) (o : SObj) : St (S.set q o) i dn pn mn U m := by
  have ne : ∀ {j : Nat} {p : SObj}, S[j]? = some p -> (∀ l, p ≠ .tab true l) -> q ≠ j := fun h' z e => by
    rw [e, h'] at h; exact z _ (Option.some.inj h)
  refine X.but (f := q) (fun j p n e => ?_) (ne X.sea.inst fun _ h => by cases h) (ne X.sea.ns fun _ h => by cases h) h2 h1 fun p hp => ?_
  · rw [set_ne n.symm]; exact e
  · refine ob12 ((X.md.ok p hp).2.ex) fun _ e _ => ?_
    exact (ne e fun _ h => by cases h).symm
theorem PS.lst (P : PS S r q mn pn U nt rs) {us : List D} (h : S[u]? = some (.list us)) (hr : u ≠ r) (o : SObj) : PS (S.set u o) r q mn pn U nt rs := by
  have : u ≠ q := fun e => by rw [e, P.nums] at h; cases h
  exact ⟨by rw [set_ne hr]; exact P.rows, by rw [set_ne this]; exact P.nums, P.q1, P.q2, P.nd, P.ks, P.ln⟩
end
noncomputable def RowIn (n : Nat) (U : List Sx) (g : List Nat) (t : Nat) (fd : List (Nat × D)) (ks : List Nat) (j : Nat) : Prop :=
  ∀ S i dn pn mn m r q nt rs, St S i dn pn mn U m -> PS S r q mn pn U nt rs -> (g, t) ∈ m -> S[t]? = some (.tab false (tI fd)) ->
    ∃ S' m' nt' rs' d, callF C11 n (Str.ofString "put_row") [.loc i, .loc r, .loc q, gD g, .int (j : Nat)] S = .ok d S' /\ St S' i dn pn mn U m' /\ PS S' r q mn pn U nt' rs' /\ Pw S S' r q mn mn m m' nt nt' (Nn g ks)
noncomputable def RowUp (n : Nat) (U : List Sx) (g : List Nat) (j : Nat) : Prop :=
  ∀ S i dn pn mn m r q nt rs, St S i dn pn mn U m -> PS S r q mn pn U nt rs ->
    ∃ S' m' nt' rs' d, callF C11 n (Str.ofString "put_row") [.loc i, .loc r, .loc q, gD g, .int (j : Nat)] S = .ok d S' /\ St S' i dn pn mn U m' /\ PS S' r q mn pn U nt' rs' /\ Pw S S' r q mn mn m m' nt nt' (fun k => g.length <= k.1.length)
noncomputable abbrev sgR (i r q : Nat) (g : List Nat) (j : Nat) (rule : Str) (cs : List (List Nat × Nat)) (u : Nat) (o : Option D) : Sg := [some (.loc i), some (.loc r), some (.loc q), some (gD g), some (.int (j : Nat)), some (.str rule), some (.tuple (cs.map cD)), some (.loc u), o, none, none, none]
set_option tactic.hygienic true in
theorem row_loop {U : List Sx} {i dn pn mn r q u t : Nat} {g : List Nat} {j : Nat} {rule : Str} {cs0 : List (List Nat × Nat)} {fd : List (Nat × D)} {ks : List Nat} (n : Nat) :
    ∀ (cs : List (List Nat × Nat)) (S : Store) (m : List (List Nat × Nat)) (nt : List ((List Nat × Nat) × Nat)) (rs us : List D) (o : Option D),
    (∀ c ∈ cs, (c.1 = g /\ RowIn n U g t fd ks c.2) \/ (g.length < c.1.length /\ RowUp n U c.1 c.2)) -> St S i dn pn mn U m -> PS S r q mn pn U nt rs -> (g, t) ∈ m -> S[t]? = some (.tab false (tI fd)) -> S[u]? = some (.list us) -> u ≠ r -> us.length + cs.length <= 1000 ->
    ∃ S' m' nt' rs' us' o', forL (fun d σ => b_put_row_4 (callF C11 n) (put σ 8 d)) (cs.map cD) (sgR i r q g j rule cs0 u o) S = .ok (.next (sgR i r q g j rule cs0 u o')) S' /\ St S' i dn pn mn U m' /\ PS S' r q mn pn U nt' rs' /\ Pw S S' r q mn u m m' nt nt' (Nn g ks) /\ S'[u]? = some (.list us') /\ (g, t) ∈ m' /\ S'[t]? = some (.tab false (tI fd))
  | [], S, m, nt, rs, us, o, _, X, P, ht, ef, hu, _, _ => mk67 S m nt rs us o rfl X P Pw.refl hu ht ef
  | c :: cs, S, m, nt, rs, us, o, hc, X, P, ht, ef, hu, hur, hz => by
    have hz' : us.length + (cs.length + 1) <= 1000 := hz
    have huq : u ≠ q := fun e => by rw [e, P.nums] at hu; cases hu
    have hum : u ≠ mn := fun e => by rw [e, X.sea.md] at hu; cases hu
    have hut : u ≠ t := fun e => by rw [e, ef] at hu; cases hu
    have htq : t ≠ q := fun e => by rw [e, P.nums] at ef; cases ef
    have htr : t ≠ r := fun e => by rw [e, P.rows] at ef; cases ef
    have htm : t ≠ mn := fun e => by rw [e, X.sea.md] at ef; cases ef
    have call : ∃ S1 m1 nt1 rs1 d, callF C11 n (Str.ofString "put_row") [.loc i, .loc r, .loc q, gD c.1, .int (c.2 : Nat)] S = .ok d S1 /\ St S1 i dn pn mn U m1 /\ PS S1 r q mn pn U nt1 rs1 /\ Pw S S1 r q mn mn m m1 nt nt1 (Nn g ks) := by
      rcases hc c (List.mem_cons_self ..) with ⟨h1, h2⟩ | ⟨h1, h2⟩
      · rw [h1]; exact h2 S i dn pn mn m r q nt rs X P ht ef
      · refine ob54 (h2 S i dn pn mn m r q nt rs X P) fun S1 m1 nt1 rs1 d e1 X1 P1 w1 => ?_
        exact mk54 S1 m1 nt1 rs1 d e1 X1 P1 (w1.mono fun k hk => .inl (by lia))
    refine ob54 call fun S1 m1 nt1 rs1 d e1 X1 P1 w1 => ?_; clear call
    have hu1 : S1[u]? = some (.list us) := (w1.keep u (get_lt hu) hum hur huq hum).trans hu
    have ef1 : S1[t]? = some (.tab false (tI fd)) := (w1.keep t (get_lt ef) htm htr htq htm).trans ef
    have e2 : b_put_row_4 (callF C11 n) (sgR i r q g j rule cs0 u (some (cD c))) S = .ok (.next (sgR i r q g j rule cs0 u (some (cD c)))) (S1.set u (.list (us ++ [d]))) := by
      unfold b_put_row_4
      refine (seq_st (S1 := S1.set u (.list (us ++ [d]))) (σ := sgR i r q g j rule cs0 u (some (cD c))) ?_).trans rfl
      show bnd (methS mAppend (ret (.loc u)) (consM (callN (callF C11 n) (Str.ofString "put_row") (ret [.loc i, .loc r, .loc q, gD c.1, .int (c.2 : Nat)])) (ret []))) (fun _ => ret (Fl.next _)) S = _
      rw [bnd_st (app_go (d := d) hu (by
        rw [callN_ret]
        unfold consM
        rw [bnd_st (calm_st e1)]; rfl) hu1 (by lia))]
      rfl
    have q0 : forL (fun d σ => b_put_row_4 (callF C11 n) (put σ 8 d)) ((c :: cs).map cD) (sgR i r q g j rule cs0 u o) = bnd (calm (b_put_row_4 (callF C11 n) (sgR i r q g j rule cs0 u (some (cD c))))) fun f => match f with
      | .next σ' => forL (fun d σ => b_put_row_4 (callF C11 n) (put σ 8 d)) (cs.map cD) σ'
      | .ret v => ret (.ret v) := rfl
    refine ob67 (row_loop (j := j) (rule := rule) (cs0 := cs0) n cs (S1.set u (.list (us ++ [d]))) m1 nt1 rs1 (us ++ [d]) (some (cD c)) (fun c h => hc c (List.mem_cons_of_mem _ h)) (X1.lst hu1 _) (P1.lst hu1 hur _) (w1.old _ ht) (by rw [set_ne hut]; exact ef1) (set_at hu1) hur (by rw [List.length_append]; show us.length + 1 + cs.length <= 1000; lia)) fun S2 m2 nt2 rs2 us2 o2 e3 X2 P2 w2 hu2 ht2 ef2 => ?_
    refine mk67 S2 m2 nt2 rs2 us2 o2 ?_ X2 P2 ?_ hu2 ht2 ef2
    · rw [q0, bnd_st (calm_st e2)]; exact e3
    · refine Pw.trans (S1 := S1.set u (.list (us ++ [d]))) (m1 := m1) (nt1 := nt1) ⟨fun j h h1 h2 h3 h4 => ?_, by rw [List.length_set]; exact w1.len, w1.old, w1.new⟩ w2
      rw [set_ne (Ne.symm h4)]; exact w1.keep j h h1 h2 h3 h1
end L11
end Mine
end

section
namespace Mine
open PySem
namespace L11
section
variable {S : Store} {i dn pn mn r q u t : Nat} {U : List Sx} {m : List (List Nat × Nat)} {nt : List ((List Nat × Nat) × Nat)} {rs : List D} {g : List Nat}
theorem c_row (n : Nat) (a b c d e : D) : callF C11 (n + 1) (Str.ofString "put_row") [a, b, c, d, e] = s_put_row (callF C11 n) a b c d e := by kernel_rfl
theorem row_given (X : St S i dn pn mn U m) (cf : CF) (σ : Sg) (h0 : (σ[0]?).join = some (.loc i)) : ∀ g : List Nat, (∀ k ∈ g, k < U.length) -> ∃ ys, compL (t_put_row_1 cf σ) (g.map fun k => D.int (k : Nat)) S = .ok ys S
  | [], _ => mk11 [] rfl
  | k :: g, h => by
    refine ob11 (row_given X cf σ h0 g fun k hk => h k (List.mem_cons_of_mem _ hk)) fun ys e => ?_
    have hkl := h k (List.mem_cons_self ..)
    have hk : U[k]? = some U[k] := List.getElem?_eq_getElem hkl
    generalize U[k] = s at hk
    have e1 : t_put_row_1 cf σ (.int (k : Nat)) S = .ok (some (enc s)) S := by
      unfold t_put_row_1
      rw [h0]
      show bnd (bnd (attrM C11 (.loc i) (Str.ofString "order")) fun a => itemM a (.int (k : Nat))) (fun y => ret (some y)) S = _
      rw [bnd_assoc, bnd_st X.sea.order, Sea.at_order hk]; rfl
    refine mk11 (enc s :: ys) ?_
    show bnd (t_put_row_1 cf σ (.int (k : Nat))) (fun x => bnd (compL (t_put_row_1 cf σ) (g.map fun k => D.int (k : Nat))) fun ys => ret (match x with
      | some y => y :: ys
      | none => ys)) S = _
    rw [bnd_st e1, bnd_st e]; rfl
set_option tactic.hygienic true in
theorem row_main (hU : UOk U) (hg : OkG U.length g) (n : Nat) {j : Nat} {s : Sx} (hj : U[j]? = some s) {S0 : Store}
    (e1 : oMeth C11 (callF C11 n) (Str.ofString "theory_from") (ret (.loc i)) (ret [gD g]) S0 = .ok (.loc t) S) (X : St S i dn pn mn U m) (P : PS S r q mn pn U nt rs) (hn : (g, j) ∉ nt.map (·.1)) (ht : (g, t) ∈ m) {fd : List (Nat × D)} (ef : S[t]? = some (.tab false (tI fd)))
    {rule : Str} {cs : List (List Nat × Nat)} (hd : tabAt (tI fd) (.int (j : Nat)) = some (.tuple [.str rule, .tuple (cs.map cD)])) (hz : cs.length <= 3) {ks : List Nat} (hjk : j ∉ ks)
    (hc : ∀ c ∈ cs, (c.1 = g /\ RowIn n U g t fd ks c.2) \/ (g.length < c.1.length /\ RowUp n U c.1 c.2)) :
    ∃ S' m' nt' rs' d, finM (seqM (b_put_row_7 (callF C11 n) [some (.loc i), some (.loc r), some (.loc q), some (gD g), some (.int (j : Nat)), none, none, none, none, none, none, none]) (b_put_row_0 (callF C11 n))) S0 = .ok d S' /\ St S' i dn pn mn U m' /\ PS S' r q mn pn U nt' rs' /\ Pw S S' r q mn mn m m' nt nt' (Nn g (ks ++ [j])) := by
  have hu : (S ++ [SObj.list []])[S.length]? = some (.list []) := by simp
  have kp : ∀ k, k < S.length -> (S ++ [SObj.list []])[k]? = S[k]? := fun k hk => List.getElem?_append_left hk
  have P' : PS (S ++ [SObj.list []]) r q mn pn U nt rs := ⟨(kp r (get_lt P.rows)).trans P.rows, (kp q (get_lt P.nums)).trans P.nums, P.q1, P.q2, P.nd, P.ks, P.ln⟩
  refine ob67 (row_loop (i := i) (dn := dn) (pn := pn) (mn := mn) (r := r) (q := q) (u := S.length) (g := g) (j := j) (rule := rule) (cs0 := cs) (fd := fd) (ks := ks) n cs (S ++ [.list []]) m nt rs [] none hc (X.app _) P' ht ((kp t (get_lt ef)).trans ef) hu (Nat.ne_of_gt (get_lt P.rows)) (by simp only [List.length_nil]; lia)) fun S2 m2 nt2 rs2 us o2 e3 X2 P2 w2 hu2 ht2 ef2 => ?_
  have hn2 : (g, j) ∉ nt2.map (·.1) := fun z => by
    rcases w2.new _ z with z | z | z
    · exact hn z
    · exact Nat.lt_irrefl _ z
    · exact hjk z.2
  have hl2 := P2.len hU.len
  have hrl := P2.ln
  have huq : S.length ≠ q := Nat.ne_of_gt (get_lt P.nums)
  have hur : S.length ≠ r := Nat.ne_of_gt (get_lt P.rows)
  have hrq : r ≠ q := fun e => by have := P2.rows; rw [e, P2.nums] at this; cases this
  have es : setItemM (.loc q) (cD (g, j)) (.int (rs2.length : Nat)) S2 = .ok () (S2.set q (.tab true (tN (nt2 ++ [((g, j), rs2.length)])))) := by
    rw [set_tab P2.nums (key_n (g, j)) (by rw [tN_len]; lia), tN_put hn2]
  have X3 : St (S2.set q (.tab true (tN (nt2 ++ [((g, j), rs2.length)])))) i dn pn mn U m2 := X2.nums P2.nums P2.q1 P2.q2 _
  have hq3 : (S2.set q (.tab true (tN (nt2 ++ [((g, j), rs2.length)]))))[q]? = some (.tab true (tN (nt2 ++ [((g, j), rs2.length)]))) := set_at P2.nums
  have hr3 : (S2.set q (.tab true (tN (nt2 ++ [((g, j), rs2.length)]))))[r]? = some (.list rs2) := by rw [set_ne hrq.symm]; exact P2.rows
  have hu3 : (S2.set q (.tab true (tN (nt2 ++ [((g, j), rs2.length)]))))[S.length]? = some (.list us) := by rw [set_ne huq.symm]; exact hu2
  generalize hS3 : S2.set q (.tab true (tN (nt2 ++ [((g, j), rs2.length)]))) = S3 at es X3 hq3 hr3 hu3
  refine ob11 (row_given X3 (callF C11 n) (sgR i r q g j rule cs S.length o2) rfl g hg.lt) fun ys ey => ?_
  have em : consM (tupM (consM (bnd (consM (comp0 (ret (gD g)) (t_put_row_1 (callF C11 n) (sgR i r q g j rule cs S.length o2))) (ret [])) fun ds => bf0 .tuple ds) (consM (subS (attS C11 (Str.ofString "order") (ret (.loc i))) (ret (.int (j : Nat)))) (consM (ret (.str rule)) (consM (bnd (consM (ret (.loc S.length)) (ret [])) fun ds => bf0 .tuple ds) (ret [])))))) (ret []) S3 = .ok [.tuple [.tuple ys, enc s, .str rule, .tuple us]] S3 := by
    have a1 : bnd (consM (comp0 (ret (gD g)) (t_put_row_1 (callF C11 n) (sgR i r q g j rule cs S.length o2))) (ret [])) (fun ds => bf0 .tuple ds) S3 = .ok (.tuple ys) S3 := by
      show bnd (bnd (bnd (compL (t_put_row_1 (callF C11 n) (sgR i r q g j rule cs S.length o2)) (g.map fun k => D.int (k : Nat))) fun ys => mkList cfg0 pos0 ys) fun d => bnd (ret []) fun ds => ret (d :: ds)) (fun ds => bf0 .tuple ds) S3 = _
      rw [bnd_assoc, bnd_assoc, bnd_st ey]; rfl
    have a2 : subS (attS C11 (Str.ofString "order") (ret (.loc i))) (ret (.int (j : Nat))) S3 = .ok (enc s) S3 := by
      show bnd (attrM C11 (.loc i) (Str.ofString "order")) (fun a => itemM a (.int (j : Nat))) S3 = _
      rw [bnd_st X3.sea.order, Sea.at_order hj]; rfl
    have a3 : bnd (consM (ret (.loc S.length)) (ret [])) (fun ds => bf0 .tuple ds) S3 = .ok (.tuple us) S3 := tuple_loc hu3
    have b : consM (bnd (consM (comp0 (ret (gD g)) (t_put_row_1 (callF C11 n) (sgR i r q g j rule cs S.length o2))) (ret [])) fun ds => bf0 .tuple ds) (consM (subS (attS C11 (Str.ofString "order") (ret (.loc i))) (ret (.int (j : Nat)))) (consM (ret (.str rule)) (consM (bnd (consM (ret (.loc S.length)) (ret [])) fun ds => bf0 .tuple ds) (ret [])))) S3 = .ok [.tuple ys, enc s, .str rule, .tuple us] S3 := by
      generalize bnd (consM (comp0 (ret (gD g)) (t_put_row_1 (callF C11 n) (sgR i r q g j rule cs S.length o2))) (ret [])) (fun ds => bf0 .tuple ds) = x1 at a1
      generalize subS (attS C11 (Str.ofString "order") (ret (.loc i))) (ret (.int (j : Nat))) = x2 at a2
      generalize bnd (consM (ret (.loc S.length)) (ret [])) (fun ds => bf0 .tuple ds) = x3 at a3
      have c3 : consM (ret (.str rule)) (consM x3 (ret [])) S3 = .ok [.str rule, .tuple us] S3 := by
        show bnd (bnd x3 fun d => bnd (ret []) fun ds => ret (d :: ds)) (fun ds => ret (D.str rule :: ds)) S3 = _
        rw [bnd_assoc, bnd_st a3]; rfl
      unfold consM
      rw [bnd_st a1]
      rw [bnd_assoc, bnd_st a2]
      rw [bnd_assoc]
      unfold consM at c3
      rw [bnd_st c3]; rfl
    generalize consM (bnd (consM (comp0 (ret (gD g)) (t_put_row_1 (callF C11 n) (sgR i r q g j rule cs S.length o2))) (ret [])) fun ds => bf0 .tuple ds) (consM (subS (attS C11 (Str.ofString "order") (ret (.loc i))) (ret (.int (j : Nat)))) (consM (ret (.str rule)) (consM (bnd (consM (ret (.loc S.length)) (ret [])) fun ds => bf0 .tuple ds) (ret [])))) = x at b
    show bnd (bnd x fun ds => if ds.length <= sizeLine then ret (D.tuple ds) else stk) (fun d => bnd (ret []) fun ds => ret (d :: ds)) S3 = _
    rw [bnd_assoc, bnd_st b]; rfl
  have ea := app_go (u := r) (us := rs2) hr3 em hr3 (by lia)
  refine mk41 (S3.set r (.list (rs2 ++ [.tuple [.tuple ys, enc s, .str rule, .tuple us]]))) m2 (nt2 ++ [((g, j), rs2.length)]) (rs2 ++ [.tuple [.tuple ys, enc s, .str rule, .tuple us]]) ?_
  have hq4 : (S3.set r (.list (rs2 ++ [.tuple [.tuple ys, enc s, .str rule, .tuple us]])))[q]? = some (.tab true (tN (nt2 ++ [((g, j), rs2.length)]))) := by rw [set_ne hrq]; exact hq3
  have hin : (g, j) ∈ (nt2 ++ [((g, j), rs2.length)]).map (·.1) := by simp
  refine ob11 (tN_get hin) fun d hdd => ?_
  refine mk14 d ?_ (X3.lst hr3 _) ⟨set_at hr3, hq4, P2.q1, P2.q2, ?_, ?_, ?_⟩ ?_
  · unfold b_put_row_7
    rw [fin_seq]
    refine (go_st (σ := [some (.loc i), some (.loc r), some (.loc q), some (gD g), some (.int (j : Nat)), some (.str rule), some (.tuple (cs.map cD)), none, none, none, none, none]) (S1 := S) ?_).trans ?_
    · show bnd (bnd (oMeth C11 (callF C11 n) (Str.ofString "theory_from") (ret (.loc i)) (ret [gD g])) fun a => itemM a (.int (j : Nat))) (fun d => bnd (optM (seqOf d)) fun ds => bnd (optM (putIs [5, 6] ds [some (.loc i), some (.loc r), some (.loc q), some (gD g), some (.int (j : Nat)), none, none, none, none, none, none, none])) fun σ' => ret (Fl.next σ')) S0 = _
      rw [bnd_assoc, bnd_st e1, bnd_st (item_tab ef (key_i j) hd)]; rfl
    unfold b_put_row_6
    rw [fin_seq]
    refine (fin_put (S := S) (m := lstO' (ret [])) (d := .loc S.length) (S1 := S ++ [.list []]) rfl).trans ?_
    unfold b_put_row_5
    rw [fin_seq]
    refine (go_st (σ := sgR i r q g j rule cs S.length o2) (S1 := S2) e3).trans ?_
    unfold b_put_row_3
    rw [fin_seq]
    refine (go_st (σ := sgR i r q g j rule cs S.length o2) (S1 := S3) ?_).trans ?_
    · show bnd (bf0 .len [.loc r]) (fun d => bnd (setItemM (.loc q) (cD (g, j)) d) fun _ => ret (Fl.next _)) S2 = _
      rw [bnd_st (len_loc P2.rows), bnd_st es]; rfl
    unfold b_put_row_2
    rw [fin_seq]
    refine (fin_do (d := .none) (S1 := S3.set r (.list (rs2 ++ [.tuple [.tuple ys, enc s, .str rule, .tuple us]]))) ea).trans ?_
    rw [fin_nxt]
    unfold b_put_row_0
    exact fin_ret_st (item_tab hq4 (key_n (g, j)) hdd)
  · rw [List.map_append]
    exact List.nodup_append.mpr ⟨P2.nd, by simp, fun a ha b hb z => hn2 (by rw [List.map_cons, List.map_nil, List.mem_singleton] at hb; have z' : a = (g, j) := z.trans hb; rw [<- z']; exact ha)⟩
  · intro k hk
    rw [List.map_append] at hk
    rcases List.mem_append.mp hk with hk | hk
    · exact P2.ks k hk
    · rw [List.map_cons, List.map_nil, List.mem_singleton] at hk
      rw [hk]; exact ⟨hg, (List.getElem?_eq_some_iff.mp hj).1⟩
  · rw [List.length_append, List.length_append]; exact Nat.succ_le_succ hrl
  · refine Pw.shut (S := S ++ [.list []]) (u := S.length) ⟨fun k h h1 h2 h3 h4 => ?_, ?_, w2.old, fun k hk => ?_⟩ (fun k hk => kp k hk) (by simp) (Nat.le_refl _)
    · rw [set_ne (Ne.symm h2), <- hS3, set_ne (Ne.symm h3)]; exact w2.keep k h h1 h2 h3 h4
    · rw [List.length_set, <- hS3, List.length_set]; exact w2.len
    · rw [List.map_append] at hk
      rcases List.mem_append.mp hk with hk | hk
      · rcases w2.new k hk with z | z | z
        · exact .inl z
        · exact .inr (.inl z)
        · exact .inr (.inr ⟨z.1, List.mem_append_left _ z.2⟩)
      · rw [List.map_cons, List.map_nil, List.mem_singleton] at hk
        rw [hk]; exact .inr (.inr ⟨rfl, List.mem_append_right _ (List.mem_singleton.mpr rfl)⟩)
end
end L11
end Mine
end

section
namespace Mine
open PySem
theorem GvOk.at {U : List Sx} {g : List Nat} {f : List (Nat × D)} (h : GvOk U g f) {x j : Nat} {d : D} (hi : f[x]? = some (j, d)) : (x < g.length /\ d = gvD) \/ (g.length <= x /\ GoodE U g ((f.map (·.1)).take x) d) := by
  refine ob12 h fun r er1 hr => ?_; clear h; subst er1
  by_cases hx : x < g.length
  · left
    rw [List.getElem?_append_left (by rw [List.length_map]; exact hx), List.getElem?_map] at hi
    cases hg : g[x]? with
    | none => rw [hg] at hi; cases hi
    | some k => rw [hg] at hi; cases hi; exact ⟨hx, rfl⟩
  · right
    have hx' : g.length <= x := Nat.le_of_not_lt hx
    refine ⟨hx', ?_⟩
    rw [List.getElem?_append_right (by rw [List.length_map]; exact hx'), List.length_map] at hi
    refine ob11 (List.getElem?_eq_some_iff.mp hi) fun hl he => ?_
    have e : r = r.take (x - g.length) ++ (j, d) :: r.drop (x - g.length + 1) := by
      have := List.take_append_drop (x - g.length) r
      rw [List.drop_eq_getElem_cons hl, he] at this
      exact this.symm
    have := hr _ _ _ e
    have e2 : (((g.map fun k => (k, gvD)) ++ r).map (·.1)).take x = g ++ (r.take (x - g.length)).map (·.1) := by
      have h1 : (g.map fun k => (k, gvD)).map (·.1) = g := by rw [List.map_map]; exact List.map_id' g
      rw [List.map_append, h1, List.take_append, List.take_of_length_le hx', List.map_take]
    rw [e2]; exact this
theorem tI_at : ∀ {f : List (Nat × D)} {x j : Nat} {d : D}, (f.map (·.1)).Nodup -> f[x]? = some (j, d) -> tabAt (tI f) (.int (j : Nat)) = some d
  | [], _, _, _, _, h => by cases h
  | p :: f, x, j, d, hn, h => by
    have hn' : p.1 ∉ f.map (·.1) /\ (f.map (·.1)).Nodup := List.nodup_cons.mp hn
    show tabAt ((Kd.int (p.1 : Nat), p.2) :: tI f) _ = _
    rw [tabAt_cons]
    cases x with
    | zero => cases h; rw [if_pos rfl]
    | succ x =>
      have h' : f[x]? = some (j, d) := h
      have : ¬ Kd.int (p.1 : Nat) = Kd.int (j : Nat) := fun e => hn'.1 (by rw [int_inj e]; exact List.mem_map.mpr ⟨_, List.mem_of_getElem? h', rfl⟩)
      rw [if_neg this]; exact tI_at hn'.2 h'
theorem take_not {l : List Nat} (hn : l.Nodup) {x j : Nat} (h : l[x]? = some j) : j ∉ l.take x := fun z => by
  refine ob11 (List.mem_iff_getElem?.mp z) fun y hy => ?_
  have hlt : y < x := by
    have := (List.getElem?_eq_some_iff.mp hy).1
    rw [List.length_take] at this; lia
  have hy' : l[y]? = some j := by rw [List.getElem?_take_of_lt hlt] at hy; exact hy
  have := (List.getElem?_inj (List.getElem?_eq_some_iff.mp hy').1 hn).mp (hy'.trans h.symm)
  lia
theorem take_in {l : List Nat} {x j : Nat} (h : j ∈ l.take x) : ∃ y, y < x /\ l[y]? = some j := by
  refine ob11 (List.mem_iff_getElem?.mp h) fun y hy => ?_
  have hlt : y < x := by
    have := (List.getElem?_eq_some_iff.mp hy).1
    rw [List.length_take] at this; lia
  exact mk12 y hlt (by rw [List.getElem?_take_of_lt hlt] at hy; exact hy)
theorem take_mono {l : List Nat} {x y j : Nat} (hxy : x <= y) (h : j ∈ l.take x) : j ∈ l.take y := by
  have : l.take x = (l.take y).take x := by rw [List.take_take, Nat.min_eq_left hxy]
  rw [this] at h
  exact List.mem_of_mem_take h
theorem take_snoc {l : List Nat} {x j : Nat} (h : l[x]? = some j) : l.take (x + 1) = l.take x ++ [j] := by
  rw [List.take_add_one, h]; rfl
theorem eq_of_nodup : ∀ {m : List (List Nat × Nat)} {g : List Nat} {a b : Nat}, (m.map (·.1)).Nodup -> (g, a) ∈ m -> (g, b) ∈ m -> a = b
  | [], _, _, _, _, h, _ => nomatch h
  | p :: m, g, a, b, hn, h1, h2 => by
    refine ob02 (List.nodup_cons.mp hn) fun n1 n2 => ?_
    rcases List.mem_cons.mp h1 with e1 | h1
    · rcases List.mem_cons.mp h2 with e2 | h2
      · have := e1.trans e2.symm; cases this; rfl
      · exact absurd (List.mem_map.mpr ⟨_, h2, by rw [<- e1]⟩) n1
    · rcases List.mem_cons.mp h2 with e2 | h2
      · exact absurd (List.mem_map.mpr ⟨_, h1, by rw [<- e2]⟩) n1
      · exact eq_of_nodup n2 h1 h2
theorem tI_inj : ∀ {a b : List (Nat × D)}, tI a = tI b -> a = b
  | [], [], _ => rfl
  | [], _ :: _, h => by cases h
  | _ :: _, [], h => by cases h
  | p :: a, q :: b, h => by
    have h' : (Kd.int (p.1 : Nat), p.2) :: tI a = (Kd.int (q.1 : Nat), q.2) :: tI b := h
    refine ob02 (List.cons.inj h') fun h1 h2 => ?_
    refine ob02 (Prod.mk.inj h1) fun h3 h4 => ?_
    rw [tI_inj h2, show p = q from Prod.ext (int_inj h3) h4]
namespace L11
section
variable {S : Store} {i dn pn mn r q u t : Nat} {U : List Sx} {m : List (List Nat × Nat)} {nt : List ((List Nat × Nat) × Nat)} {rs : List D} {g : List Nat}
theorem row_one (hU : UOk U) (hg : OkG U.length g) (n : Nat) {j : Nat} {s : Sx} (hj : U[j]? = some s) (T : Th n U g) (X : St S i dn pn mn U m) (P : PS S r q mn pn U nt rs) {N : List Nat × Nat -> Prop}
    (hyp : ∀ S1 m1 t fd, (g, t) ∈ m1 -> S1[t]? = some (.tab false (tI fd)) -> (∀ j s, U[j]? = some s -> (j ∈ fd.map (·.1) ↔ Der U (gs U g) s)) /\ GvOk U g fd /\ (fd.map (·.1)).Nodup /\ (∀ k ∈ fd.map (·.1), k < U.length) -> Fr g.length S S1 mn m m1 -> (m1.map (·.1)).Nodup ->
      ∃ (rule : Str) (cs : List (List Nat × Nat)) (ks : List Nat), tabAt (tI fd) (.int (j : Nat)) = some (.tuple [.str rule, .tuple (cs.map cD)]) /\ cs.length <= 3 /\ j ∉ ks /\ (∀ c ∈ cs, (c.1 = g /\ RowIn n U g t fd ks c.2) \/ (g.length < c.1.length /\ RowUp n U c.1 c.2)) /\ ∀ k, Nn g (ks ++ [j]) k -> N k) :
    ∃ S' m' nt' rs' d, callF C11 (n + 1) (Str.ofString "put_row") [.loc i, .loc r, .loc q, gD g, .int (j : Nat)] S = .ok d S' /\ St S' i dn pn mn U m' /\ PS S' r q mn pn U nt' rs' /\ Pw S S' r q mn mn m m' nt nt' N := by
  rw [c_row]
  show ∃ S' m' nt' rs' d, finM (b_put_row_8 (callF C11 n) [some (.loc i), some (.loc r), some (.loc q), some (gD g), some (.int (j : Nat)), none, none, none, none, none, none, none]) S = .ok d S' /\ _
  unfold b_put_row_8
  have hc : cmpS .NotIn (tupM (consM (lk [some (.loc i), some (.loc r), some (.loc q), some (gD g), some (.int (j : Nat)), none, none, none, none, none, none, none] 3) (consM (lk [some (.loc i), some (.loc r), some (.loc q), some (gD g), some (.int (j : Nat)), none, none, none, none, none, none, none] 4) (ret [])))) (lk [some (.loc i), some (.loc r), some (.loc q), some (gD g), some (.int (j : Nat)), none, none, none, none, none, none, none] 2) S = .ok (!decide ((g, j) ∈ nt.map (·.1))) S := by
    show cmpM .NotIn (cD (g, j)) (.loc q) S = _
    rw [nin_tab P.nums (key_n (g, j)), tN_some]
  by_cases hin : (g, j) ∈ nt.map (·.1)
  · refine ob11 (tN_get hin) fun d hd => ?_
    refine mk54 S m nt rs d ((fin_if hc).trans ?_) X P Pw.refl
    rw [decide_eq_true hin]
    show finM (b_put_row_0 (callF C11 n) [some (.loc i), some (.loc r), some (.loc q), some (gD g), some (.int (j : Nat)), none, none, none, none, none, none, none]) S = _
    unfold b_put_row_0
    exact fin_ret_st (item_tab P.nums (key_n (g, j)) hd)
  · obtain ⟨S1, m1, t, e1, X1, ⟨fd, ef, hf⟩, x1, ht⟩ := call_th X T
    refine ob35 (hyp S1 m1 t fd ht ef hf x1 X1.md.nd) fun rule cs ks hd hz hjk hcs hN => ?_
    refine ob54 (row_main hU hg n hj e1 X1 (P.step X x1) hin ht ef hd hz hjk hcs) fun S' m' nt' rs' d e2 X2 P2 w2 => ?_
    refine mk54 S' m' nt' rs' d ((fin_if hc).trans ?_) X2 P2 (Pw.trans (Fr.pw x1) (w2.mono hN))
    rw [decide_eq_false hin]; exact e2
theorem entry_hyp {fd : List (Nat × D)} {n : Nat} (hf : GvOk U g fd /\ (fd.map (·.1)).Nodup) {x j : Nat} {d : D} (hx : fd[x]? = some (j, d))
    (Hin : g.length <= x -> ∀ y k e, y < x -> fd[y]? = some (k, e) -> RowIn n U g t fd ((fd.map (·.1)).take (y + 1)) k)
    (Hup : g.length <= x -> ∀ k, k < U.length -> k ∉ g -> ∀ j s, U[j]? = some s -> Der U (gs U (insN k g)) s -> RowUp n U (insN k g) j) :
    ∃ (rule : Str) (cs : List (List Nat × Nat)) (ks : List Nat), tabAt (tI fd) (.int (j : Nat)) = some (.tuple [.str rule, .tuple (cs.map cD)]) /\ cs.length <= 3 /\ j ∉ ks /\ (∀ c ∈ cs, (c.1 = g /\ RowIn n U g t fd ks c.2) \/ (g.length < c.1.length /\ RowUp n U c.1 c.2)) /\ ks ++ [j] = (fd.map (·.1)).take (x + 1) := by
  have hxm : (fd.map (·.1))[x]? = some j := by rw [List.getElem?_map, hx]; rfl
  have ht := tI_at hf.2 hx
  rcases hf.1.at hx with ⟨h1, rfl⟩ | ⟨h1, rule, cs, rfl, h2, h3⟩
  · exact mk35 (Str.ofString "given") [] ((fd.map (·.1)).take x) ht (by simp) (take_not hf.2 hxm) (fun c hc => nomatch hc) ((take_snoc hxm).symm)
  · refine mk35 rule cs ((fd.map (·.1)).take x) ht h2 (take_not hf.2 hxm) (fun c hc => ?_) ((take_snoc hxm).symm)
    rcases h3 c hc with ⟨a1, a2⟩ | ⟨k, a1, a2, a3, s, a4, a5⟩
    · left
      refine ob12 (take_in a2) fun y hy e => ?_
      rw [List.getElem?_map] at e
      cases he : fd[y]? with
      | none => rw [he] at e; cases e
      | some p =>
        rw [he] at e
        obtain ⟨k, d⟩ := p
        have e' : k = c.2 := Option.some.inj e
        refine ⟨a1, ?_⟩
        have R := Hin h1 y k d hy he
        rw [e'] at R
        intro S i dn pn mn m r q nt rs X P ht ef
        refine ob54 (R S i dn pn mn m r q nt rs X P ht ef) fun S' m' nt' rs' d e1 X1 P1 w1 => ?_
        exact mk54 S' m' nt' rs' d e1 X1 P1 (w1.mono fun k hk => hk.imp_right fun z => ⟨z.1, take_mono hy z.2⟩)
    · right
      rw [a3] at a5 ⊢
      exact ⟨by rw [insN_len]; lia, Hup h1 k a1 a2 c.2 s a4 a5⟩
theorem row_in (hU : UOk U) (hg : OkG U.length g) (b : Nat) (T : ∀ n, b <= n -> Th n U g) (Hup : ∀ n, b <= n -> ∀ k, k < U.length -> k ∉ g -> ∀ j s, U[j]? = some s -> Der U (gs U (insN k g)) s -> RowUp n U (insN k g) j)
    {fd : List (Nat × D)} (hf : GvOk U g fd /\ (fd.map (·.1)).Nodup) (hlt : ∀ k ∈ fd.map (·.1), k < U.length) : ∀ (N x : Nat), x <= N -> ∀ (j : Nat) (d : D), fd[x]? = some (j, d) -> ∀ n, b + (x + 1 - g.length) <= n -> RowIn (n + 1) U g t fd ((fd.map (·.1)).take (x + 1)) j := by
  intro N
  induction N with
  | zero =>
    intro x hx0 j d hx n hn S i dn pn mn m r q nt rs X P ht ef
    have hjl : j < U.length := hlt j (List.mem_map.mpr ⟨_, List.mem_of_getElem? hx, rfl⟩)
    refine row_one hU hg n (List.getElem?_eq_getElem hjl) (T n (by lia)) X P fun S1 m1 t1 fd1 ht1 ef1 hf1 x1 hn1 => ?_
    have tt : t1 = t := eq_of_nodup hn1 ht1 (x1.old _ ht)
    subst tt
    have htm : t1 ≠ mn := fun e => by rw [e, X.sea.md] at ef; cases ef
    have : some (SObj.tab false (tI fd1)) = some (.tab false (tI fd)) := ef1.symm.trans ((x1.keep t1 (get_lt ef) htm).trans ef)
    have hfd : fd1 = fd := tI_inj (by injection (Option.some.inj this))
    subst hfd
    refine ob35 (entry_hyp (t := t1) (n := n) hf hx (fun _ y k e hy => absurd hy (by lia)) (fun h k hk hkg j s hj hd => Hup n (by lia) k hk hkg j s hj hd)) fun rule cs ks a1 a2 a3 a4 a5 => ?_
    exact mk35 rule cs ks a1 a2 a3 a4 (fun k hk => a5 ▸ hk)
  | succ N ih =>
    intro x hxN j d hx n hn S i dn pn mn m r q nt rs X P ht ef
    have hjl : j < U.length := hlt j (List.mem_map.mpr ⟨_, List.mem_of_getElem? hx, rfl⟩)
    refine row_one hU hg n (List.getElem?_eq_getElem hjl) (T n (by lia)) X P fun S1 m1 t1 fd1 ht1 ef1 hf1 x1 hn1 => ?_
    have tt : t1 = t := eq_of_nodup hn1 ht1 (x1.old _ ht)
    subst tt
    have htm : t1 ≠ mn := fun e => by rw [e, X.sea.md] at ef; cases ef
    have : some (SObj.tab false (tI fd1)) = some (.tab false (tI fd)) := ef1.symm.trans ((x1.keep t1 (get_lt ef) htm).trans ef)
    have hfd : fd1 = fd := tI_inj (by injection (Option.some.inj this))
    subst hfd
    obtain ⟨rule, cs, ks, a1, a2, a3, a4, a5⟩ := entry_hyp (t := t1) (n := n) hf hx (fun h y k e hy he => by
      obtain ⟨n', rfl⟩ : ∃ n', n = n' + 1 := mk11 (n - 1) (by lia)
      exact ih y (by lia) k e he n' (by lia)) (fun h k hk hkg j s hj hd => Hup n (by lia) k hk hkg j s hj hd)
    exact mk35 rule cs ks a1 a2 a3 a4 (fun k hk => a5 ▸ hk)
theorem row_up (hU : UOk U) (hg : OkG U.length g) (b : Nat) (T : ∀ n, b <= n -> Th n U g) (Hup : ∀ n, b <= n -> ∀ k, k < U.length -> k ∉ g -> ∀ j s, U[j]? = some s -> Der U (gs U (insN k g)) s -> RowUp n U (insN k g) j)
    {j : Nat} {s : Sx} (hj : U[j]? = some s) (hd : Der U (gs U g) s) (n : Nat) (hn : b + (U.length - g.length) <= n) : RowUp (n + 1) U g j := by
  intro S i dn pn mn m r q nt rs X P
  refine row_one hU hg n hj (T n (by lia)) X P fun S1 m1 t fd ht ef hf x1 hn1 => ?_
  refine ob04 hf fun h1 h2 h3 h4 => ?_; clear hf
  have hm := (h1 j s hj).mpr hd
  refine ob12 (List.mem_map.mp hm) fun p hp er1 => ?_; subst er1
  refine ob11 (List.mem_iff_getElem?.mp hp) fun x hx => ?_
  have hxl : x < U.length := by
    have a := (List.getElem?_eq_some_iff.mp hx).1
    have c := h3.length_le_of_subset (l₂ := List.range U.length) fun y hy => List.mem_range.mpr (h4 y hy)
    rw [List.length_map, List.length_range] at c
    lia
  obtain ⟨rule, cs, ks, a1, a2, a3, a4, a5⟩ := entry_hyp (j := p.1) (d := p.2) (t := t) (n := n) ⟨h2, h3⟩ hx (fun h y k e hy he => by
    obtain ⟨n', rfl⟩ : ∃ n', n = n' + 1 := mk11 (n - 1) (by lia)
    exact row_in hU hg b T Hup ⟨h2, h3⟩ h4 y y (Nat.le_refl _) k e he n' (by lia)) (fun h k hk hkg j s hj hd => Hup n (by lia) k hk hkg j s hj hd)
  refine mk35 rule cs ks a1 a2 a3 a4 (fun k hk => ?_)
  rcases hk with hk | hk
  · lia
  · rw [hk.1]; exact Nat.le_refl _
noncomputable def bs : Nat -> Nat
  | 0 => 12
  | l + 1 => bs l + l + 4
theorem bs_le : ∀ l, 4 * l + 8 <= bs l
  | 0 => by decide
  | l + 1 => by have := bs_le l; show _ <= bs l + l + 4; lia
theorem row_all (hU : UOk U) : ∀ (l : Nat) (g : List Nat), OkG U.length g -> U.length <= g.length + l -> ∀ (j : Nat) (s : Sx), U[j]? = some s -> Der U (gs U g) s -> ∀ n, bs l + l <= n -> RowUp (n + 1) U g j := by
  intro l
  induction l with
  | zero =>
    intro g hg hl j s hj hd n hn
    refine row_up hU hg (bs 0) (fun n hn => theory_ok hU 0 g hg hl n (Nat.le_trans (bs_le 0) hn)) (fun n hn k hk hkg => ?_) hj hd n (by lia)
    have := OkG.len16 hU (hg.ins hk hkg)
    rw [insN_len] at this
    lia
  | succ l ih =>
    intro g hg hl j s hj hd n hn
    refine row_up hU hg (bs (l + 1)) (fun n hn => theory_ok hU (l + 1) g hg hl n (Nat.le_trans (bs_le (l + 1)) hn)) (fun n hn k hk hkg j s hj hd => ?_) hj hd n (by lia)
    have hb : bs (l + 1) = bs l + l + 4 := rfl
    obtain ⟨n', rfl⟩ : ∃ n', n = n' + 1 := mk11 (n - 1) (by lia)
    exact ih (insN k g) (hg.ins hk hkg) (by rw [insN_len]; lia) j s hj hd n' (by lia)
end
end L11
end Mine
end

section
namespace Mine
open PySem
noncomputable def sortN : List Nat -> List Nat
  | [] => []
  | x :: r => insN x (sortN r)
theorem sortN_perm : ∀ l, (sortN l).Perm l
  | [] => .refl _
  | x :: r => (insN_perm x _).trans ((sortN_perm r).cons x)
theorem sortN_mem {l : List Nat} {k : Nat} : k ∈ sortN l ↔ k ∈ l := (sortN_perm l).mem_iff
theorem sortN_up : ∀ {l : List Nat}, l.Nodup -> (sortN l).Pairwise (· < ·)
  | [], _ => List.Pairwise.nil
  | x :: r, h => by
    refine ob02 (List.nodup_cons.mp h) fun h1 h2 => ?_
    exact insN_up (sortN_up h2) fun z => h1 (sortN_mem.mp z)
theorem sortN_I {l : List Nat} (h : l.Nodup) : sortI (l.map fun j => ((j : Nat) : Int)) = (sortN l).map fun j => ((j : Nat) : Int) :=
  sortedI_unique ((sortI_perm _).trans ((sortN_perm l).symm.map _)) (sortI_sorted _) (up_le (sortN_up h))
theorem intsOf_l : ∀ (g : List Nat), intsOf (g.map fun j => D.int (j : Nat)) = some (g.map fun j => ((j : Nat) : Int))
  | [] => rfl
  | x :: g => by
    show (match intsOf (g.map fun j => D.int (j : Nat)) with
      | some bs => some (((x : Nat) : Int) :: bs)
      | none => none) = _
    rw [intsOf_l g]; rfl
theorem sortB_g {l : List Nat} (h : l.Nodup) (hz : l.length < 64) : bSortB.run false [.list (l.map fun j => D.int (j : Nat))] = ret (.list ((sortN l).map fun j => D.int (j : Nat))) := by
  funext S
  show (match intsOf (l.map fun j => D.int (j : Nat)) with
    | some ys => if ys.length < 64 then mkL false ((sortI ys).map .int) else stk
    | none => (match strsOf (l.map fun j => D.int (j : Nat)) with
      | some ys => if ys.length < 64 then mkL false ((sortS ys).map .str) else stk
      | none => stk)) S = _
  rw [intsOf_l]
  dsimp only
  rw [if_pos (by rw [List.length_map]; exact hz), sortN_I h, List.map_map]; rfl
namespace L11
section
variable {S : Store} {i dn pn mn t : Nat} {U : List Sx} {m : List (List Nat × Nat)} {g h : List Nat}
theorem Fr.weak {L : Nat} {S S' : Store} {m m' : List (List Nat × Nat)} (x : Fr L S S' mn m m') : Fr 0 S S' mn m m' := ⟨x.keep, x.len, fun p hp => (x.new p hp).imp_right fun z => ⟨z.1, Nat.zero_le _⟩, x.old⟩
theorem sort_tab {fd : List (Nat × D)} (ef : S[t]? = some (.tab false (tI fd))) (hn : (fd.map (·.1)).Nodup) (hz : fd.length < 64) :
    bnd (consM (bfS bSortB false (consM (bnd (consM (ret (.loc t)) (ret [])) fun ds => bf0 .list ds) (ret []))) (ret [])) (fun ds => bf0 .tuple ds) S = .ok (gD (sortN (fd.map (·.1)))) S := by
  have e1 : bf0 .list [.loc t] S = .ok (.list ((fd.map (·.1)).map fun k => D.int (k : Nat))) S := by
    rw [list_tab ef (by rw [tI_len]; lia), fd_keys]
  show bnd (bnd (bnd (bnd (bf0 .list [.loc t]) fun d => bnd (ret []) fun ds => ret (d :: ds)) fun ds => bSortB.run false ds) fun d => bnd (ret []) fun ds => ret (d :: ds)) (fun ds => bf0 .tuple ds) S = _
  rw [bnd_assoc, bnd_assoc, bnd_assoc, bnd_st e1]
  show bnd (bSortB.run false [.list ((fd.map (·.1)).map fun k => D.int (k : Nat))]) (fun a => bnd (bnd (ret []) fun ds => ret (a :: ds)) fun ds => bf0 .tuple ds) S = _
  rw [sortB_g hn (by rw [List.length_map]; exact hz)]; rfl
theorem tab_held (hU : UOk U) (hg : OkG U.length g) {fd : List (Nat × D)} (hf : (∀ j s, U[j]? = some s -> (j ∈ fd.map (·.1) ↔ Der U (gs U g) s)) /\ GvOk U g fd /\ (fd.map (·.1)).Nodup /\ ∀ k ∈ fd.map (·.1), k < U.length) :
    OkG U.length (sortN (fd.map (·.1))) /\ (∀ k ∈ g, k ∈ sortN (fd.map (·.1))) /\ fd.length < 64 := by
  refine ob04 hf fun h1 h2 h3 h4 => ?_; clear hf
  refine ⟨⟨sortN_up h3, fun k hk => h4 k (sortN_mem.mp hk)⟩, fun k hk => ?_, ?_⟩
  · have hkl := hg.lt k hk
    exact sortN_mem.mpr ((h1 k U[k] (List.getElem?_eq_getElem hkl)).mpr (.ax (gs_mem.mpr ⟨k, hk, List.getElem?_eq_getElem hkl⟩)))
  · have c := h3.length_le_of_subset (l₂ := List.range U.length) fun y hy => List.mem_range.mpr (h4 y hy)
    rw [List.length_map, List.length_range] at c
    have := hU.len
    lia
noncomputable abbrev sgF (i b : Nat) (g h : List Nat) (x y : Option D) : Sg := [some (.loc i), some (gD g), some (.int (b : Nat)), some (gD h), x, y, none, none, none, none, none, none]
theorem fill_loop (hU : UOk U) (n : Nat) (hn : 72 <= n) {b : Nat} :
    ∀ (ks : List Nat) (S : Store) (m : List (List Nat × Nat)) (h : List Nat) (x y : Option D), (∀ k ∈ ks, k < U.length) -> St S i dn pn mn U m -> OkG U.length h -> (∀ k ∈ g, k ∈ h) ->
    ∃ S' m' h' x' y', forL (fun d σ => b_filled_4 (callF C11 n) (put σ 4 d)) (ks.map fun k => D.int (k : Nat)) (sgF i b g h x y) S = .ok (.next (sgF i b g h' x' y')) S' /\ St S' i dn pn mn U m' /\ Fr 0 S S' mn m m' /\ OkG U.length h' /\ (∀ k ∈ g, k ∈ h')
  | [], S, m, h, x, y, _, X, hh, hgh => mk55 S m h x y rfl X (Fr.refl ..) hh hgh
  | k :: ks, S, m, h, x, y, hk, X, hh, hgh => by
    have hkl := hk k (List.mem_cons_self ..)
    have q : forL (fun d σ => b_filled_4 (callF C11 n) (put σ 4 d)) ((k :: ks).map fun k => D.int (k : Nat)) (sgF i b g h x y) = bnd (calm (b_filled_4 (callF C11 n) (sgF i b g h (some (.int (k : Nat))) y))) fun f => match f with
      | .next σ' => forL (fun d σ => b_filled_4 (callF C11 n) (put σ 4 d)) (ks.map fun k => D.int (k : Nat)) σ'
      | .ret v => ret (.ret v) := rfl
    have one : ∃ S' m' h' y', b_filled_4 (callF C11 n) (sgF i b g h (some (.int (k : Nat))) y) S = .ok (.next (sgF i b g h' (some (.int (k : Nat))) y')) S' /\ St S' i dn pn mn U m' /\ Fr 0 S S' mn m m' /\ OkG U.length h' /\ (∀ k ∈ g, k ∈ h') := by
      unfold b_filled_4
      have hc : cmpS .NotIn (lk (sgF i b g h (some (.int (k : Nat))) y) 4) (lk (sgF i b g h (some (.int (k : Nat))) y) 3) S = .ok (!decide (k ∈ h)) S := by
        show bnd (inM (.int (k : Nat)) (gD h)) (fun c => ret (!c)) S = _
        rw [show inM (.int (k : Nat)) (gD h) = ret (decide (k ∈ h)) from in_g h k]; rfl
      by_cases hin : k ∈ h
      · refine mk45 S m h y ((seq_st (S1 := S) (σ := sgF i b g h (some (.int (k : Nat))) y) ?_).trans rfl) X (Fr.refl ..) hh hgh
        rw [ifM_st hc, decide_eq_true hin]; rfl
      · have hi := hh.ins hkl hin
        obtain ⟨n', rfl⟩ : ∃ n', n = n' + 1 := mk11 (n - 1) (by lia)
        obtain ⟨S1, m1, t, e1, X1, ⟨fd, ef, hf⟩, x1, ht⟩ := call_th X (theory_ok hU 16 (insN k h) hi (by have := hU.len; lia) (n' + 1) (by lia))
        refine ob03 (tab_held hU hi hf) fun a1 a2 a3 => ?_
        have e0 : callF C11 (n' + 1) (Str.ofString "with_one") [gD h, .int (k : Nat)] S = .ok (gD (insN k h)) S := with_ok n' hh.up hin (Nat.le_trans (OkG.len16 hU hh) hU.len) S
        have e2 : b_filled_3 (callF C11 (n' + 1)) (sgF i b g h (some (.int (k : Nat))) y) S = b_filled_2 (callF C11 (n' + 1)) (sgF i b g h (some (.int (k : Nat))) (some (.loc t))) S1 := by
          unfold b_filled_3
          refine seq_st (S1 := S1) (σ := sgF i b g h (some (.int (k : Nat))) (some (.loc t))) ?_
          show bnd (bnd (clsM C11 (.loc i) (Str.ofString "theory_from")) fun f => bnd (bnd (calm (callF C11 (n' + 1) (Str.ofString "with_one") [gD h, .int (k : Nat)])) fun d => bnd (ret []) fun ds => ret (d :: ds)) fun ds => calm (callF C11 (n' + 1) f (.loc i :: ds))) (fun d => ret (Fl.next (put (sgF i b g h (some (.int (k : Nat))) y) 5 d))) S = _
          have e1' : bnd (clsM C11 (.loc i) (Str.ofString "theory_from")) (fun f => bnd (ret [gD (insN k h)]) fun ds => calm (callF C11 (n' + 1) f (.loc i :: ds))) S = .ok (.loc t) S1 := e1
          have e3 : bnd (clsM C11 (.loc i) (Str.ofString "theory_from")) (fun f => bnd (bnd (calm (callF C11 (n' + 1) (Str.ofString "with_one") [gD h, .int (k : Nat)])) fun d => bnd (ret []) fun ds => ret (d :: ds)) fun ds => calm (callF C11 (n' + 1) f (.loc i :: ds))) S = .ok (.loc t) S1 := by
            have ec : clsM C11 (.loc i) (Str.ofString "theory_from") S = .ok (mname nmS (Str.ofString "theory_from")) S := by
              unfold clsM instOf
              dsimp only
              rw [X.sea.inst]
              dsimp only
              rw [X.sea.ns]
              dsimp only
              rw [if_pos (by rw [show methOk C11 nmS (Str.ofString "theory_from") = true by decide +kernel]; rfl)]
            rw [bnd_st ec] at e1' ⊢
            rw [bnd_assoc, bnd_st (calm_st e0)]; exact e1'
          rw [bnd_st e3]; rfl
        have hc2 : cmpS .NotIn (lk (sgF i b g h (some (.int (k : Nat))) (some (.loc t))) 2) (lk (sgF i b g h (some (.int (k : Nat))) (some (.loc t))) 5) S1 = .ok (!decide (b ∈ fd.map (·.1))) S1 := by
          show cmpM .NotIn (.int (b : Nat)) (.loc t) S1 = _
          rw [nin_tab ef (key_i b), tI_some]
        have go : ∀ (h' : List Nat), b_filled_2 (callF C11 (n' + 1)) (sgF i b g h (some (.int (k : Nat))) (some (.loc t))) S1 = .ok (.next (sgF i b g h' (some (.int (k : Nat))) (some (.loc t)))) S1 -> seqM (ifM (cmpS .NotIn (lk (sgF i b g h (some (.int (k : Nat))) y) 4) (lk (sgF i b g h (some (.int (k : Nat))) y) 3)) (b_filled_3 (callF C11 (n' + 1)) (sgF i b g h (some (.int (k : Nat))) y)) (nxt (sgF i b g h (some (.int (k : Nat))) y))) nxt S = .ok (.next (sgF i b g h' (some (.int (k : Nat))) (some (.loc t)))) S1 := fun h' z => by
          refine (seq_st (S1 := S1) (σ := sgF i b g h' (some (.int (k : Nat))) (some (.loc t))) ?_).trans rfl
          rw [ifM_st hc, decide_eq_false hin, if_pos (show (!false) = true from rfl), e2]; exact z
        by_cases hb : b ∈ fd.map (·.1)
        · refine mk45 S1 m1 h (some (.loc t)) (go h ?_) X1 (Fr.weak x1) hh hgh
          unfold b_filled_2
          refine (seq_st (S1 := S1) (σ := sgF i b g h (some (.int (k : Nat))) (some (.loc t))) ?_).trans rfl
          rw [ifM_st hc2, decide_eq_true hb]; rfl
        · refine mk45 S1 m1 (sortN (fd.map (·.1))) (some (.loc t)) (go _ ?_) X1 (Fr.weak x1) a1 (fun k hk => a2 k (insN_mem.mpr (.inr (hgh k hk))))
          unfold b_filled_2
          refine (seq_st (S1 := S1) (σ := sgF i b g (sortN (fd.map (·.1))) (some (.int (k : Nat))) (some (.loc t))) ?_).trans rfl
          rw [ifM_st hc2, decide_eq_false hb, if_pos (show (!false) = true from rfl)]
          unfold b_filled_1
          refine (seq_st (S1 := S1) (σ := sgF i b g (sortN (fd.map (·.1))) (some (.int (k : Nat))) (some (.loc t))) ?_).trans rfl
          show bnd (bnd (consM (bfS bSortB false (consM (bnd (consM (ret (.loc t)) (ret [])) fun ds => bf0 .list ds) (ret []))) (ret [])) fun ds => bf0 .tuple ds) (fun d => ret (Fl.next (put (sgF i b g h (some (.int (k : Nat))) (some (.loc t))) 3 d))) S1 = _
          rw [bnd_st (sort_tab ef hf.2.2.1 a3)]; rfl
    refine ob45 one fun S1 m1 h1 y1 e1 X1 x1 hh1 hg1 => ?_; clear one
    obtain ⟨S2, m2, h2, x2, y2, e2, X2, w2, hh2, hg2⟩ := fill_loop hU n hn ks S1 m1 h1 (some (.int (k : Nat))) y1 (fun k hk' => hk k (List.mem_cons_of_mem _ hk')) X1 hh1 hg1
    refine mk55 S2 m2 h2 x2 y2 ?_ X2 (x1.trans w2) hh2 hg2
    rw [q, bnd_st (calm_st e1)]; exact e2
theorem c_filled (n : Nat) (a b c : D) : callF C11 (n + 1) (Str.ofString "filled") [a, b, c] = s_filled (callF C11 n) a b c := by kernel_rfl
theorem range_order (X : St S i dn pn mn U m) (hU : UOk U) {σ : Sg} {body : D -> Sg -> EM Fl} : forM' (bnd (consM (bnd (consM (attS C11 (Str.ofString "order") (ret (.loc i))) (ret [])) fun ds => bf0 .len ds) (ret [])) fun ds => bf0 .range ds) body σ S = forL body ((List.range U.length).map fun k => D.int (k : Nat)) σ S := by
  show bnd (bnd (bnd (bnd (bnd (attrM C11 (.loc i) (Str.ofString "order")) fun d => bnd (ret []) fun ds => ret (d :: ds)) fun ds => bf0 .len ds) fun d => bnd (ret []) fun ds => ret (d :: ds)) fun ds => bf0 .range ds) (fun it => bnd (optM (itemsOf it)) fun ds => forL _ ds _) S = _
  rw [bnd_assoc, bnd_assoc, bnd_assoc, bnd_assoc, bnd_st X.sea.order]
  show bnd (optM (itemsOf (.range 0 ((U.map enc).length : Int)))) _ S = _
  rw [List.length_map, items_rng _ (Nat.le_trans hU.len (by decide))]; rfl
theorem filled_ok (hU : UOk U) (hg : OkG U.length g) (n : Nat) (hn : 72 <= n) (b : Nat) (X : St S i dn pn mn U m) : ∃ S' m' h, callF C11 (n + 1) (Str.ofString "filled") [.loc i, gD g, .int (b : Nat)] S = .ok (gD h) S' /\ St S' i dn pn mn U m' /\ Fr 0 S S' mn m m' /\ OkG U.length h /\ ∀ k ∈ g, k ∈ h := by
  rw [c_filled]
  show ∃ S' m' h, finM (b_filled_6 (callF C11 n) [some (.loc i), some (gD g), some (.int (b : Nat)), none, none, none, none, none, none, none, none, none]) S = .ok (gD h) S' /\ _
  obtain ⟨S1, m1, t, e1, X1, ⟨fd, ef, hf⟩, x1, ht⟩ := call_th X (theory_ok hU 16 g hg (by have := hU.len; lia) n (by lia))
  refine ob03 (tab_held hU hg hf) fun a1 a2 a3 => ?_
  refine ob55 (fill_loop (b := b) hU n hn (List.range U.length) S1 m1 (sortN (fd.map (·.1))) none none (fun k hk => List.mem_range.mp hk) X1 a1 a2) fun S2 m2 h2 x2 y2 e2 X2 w2 hh2 hg2 => ?_
  refine mk35 S2 m2 h2 ?_ X2 ((Fr.weak x1).trans w2) hh2 hg2
  unfold b_filled_6
  refine (fin_put (d := gD (sortN (fd.map (·.1)))) (S1 := S1) ?_).trans ?_
  · show bnd (consM (bfS bSortB false (consM (bnd (consM (oMeth C11 (callF C11 n) (Str.ofString "theory_from") (ret (.loc i)) (ret [gD g])) (ret [])) fun ds => bf0 .list ds) (ret []))) (ret [])) (fun ds => bf0 .tuple ds) S = _
    have e3 := sort_tab ef hf.2.2.1 a3
    generalize oMeth C11 (callF C11 n) (Str.ofString "theory_from") (ret (.loc i)) (ret [gD g]) = x at e1
    show bnd (bnd (bnd (bnd (bnd (bnd x fun d => bnd (ret []) fun ds => ret (d :: ds)) fun ds => bf0 .list ds) fun d => bnd (ret []) fun ds => ret (d :: ds)) fun ds => bSortB.run false ds) fun d => bnd (ret []) fun ds => ret (d :: ds)) (fun ds => bf0 .tuple ds) S = _
    rw [bnd_assoc, bnd_assoc, bnd_assoc, bnd_assoc, bnd_assoc, bnd_st e1]
    refine Eq.trans ?_ e3
    show _ = bnd (bnd (bnd (bnd (bnd (bnd (ret (.loc t)) fun d => bnd (ret []) fun ds => ret (d :: ds)) fun ds => bf0 .list ds) fun d => bnd (ret []) fun ds => ret (d :: ds)) fun ds => bSortB.run false ds) fun d => bnd (ret []) fun ds => ret (d :: ds)) (fun ds => bf0 .tuple ds) S1
    rw [bnd_assoc, bnd_assoc, bnd_assoc, bnd_assoc, bnd_assoc]
    rfl
  unfold b_filled_5
  refine (go_st (σ := sgF i b g h2 x2 y2) (S1 := S2) ?_).trans rfl
  exact (range_order X1 hU).trans e2
end
end L11
end Mine
end

section
namespace Mine
open PySem
noncomputable def opn (U : List Sx) (h : List Nat) (k : Nat) : Bool := match U[k]? with
  | some (.bin .t p _) => !decide (p ∈ gs U h)
  | _ => false
noncomputable def un (U : List Sx) (h : List Nat) : Nat := (List.range U.length).countP (opn U h)
set_option tactic.hygienic true in
theorem opn_mono {U : List Sx} {g h : List Nat} (hs : ∀ k ∈ g, k ∈ h) {k : Nat} (ho : opn U h k = true) : opn U g k = true := by
  unfold opn at *
  split at ho
  · rename_i p q e
    rw [Bool.not_eq_true', decide_eq_false_iff_not] at ho
    show (!decide (p ∈ gs U g)) = true
    rw [Bool.not_eq_true', decide_eq_false_iff_not]
    refine fun z => ho ?_
    refine ob12 (gs_mem.mp z) fun j hj e => ?_
    exact gs_mem.mpr ⟨j, hs j hj, e⟩
  · cases ho
theorem un_mono {U : List Sx} {g h : List Nat} (hs : ∀ k ∈ g, k ∈ h) : un U h <= un U g := List.countP_mono_left fun k _ ho => opn_mono hs ho
theorem countP_lt {p q : Nat -> Bool} : ∀ (l : List Nat), (∀ k ∈ l, p k = true -> q k = true) -> (∃ k ∈ l, q k = true /\ p k = false) -> l.countP p < l.countP q
  | [], _, ⟨_, h, _⟩ => nomatch h
  | a :: l, h, ⟨k, hk, h1, h2⟩ => by
    have hl : l.countP p <= l.countP q := List.countP_mono_left fun k hk => h k (List.mem_cons_of_mem _ hk)
    rw [List.countP_cons, List.countP_cons]
    rcases List.mem_cons.mp hk with rfl | hk
    · rw [h1, h2]; simp only [if_true, Bool.false_eq_true, if_false]; lia
    · have := countP_lt l (fun k hk => h k (List.mem_cons_of_mem _ hk)) ⟨k, hk, h1, h2⟩
      by_cases hp : p a = true
      · rw [hp, h a (List.mem_cons_self ..) hp]; simp only [if_true]; lia
      · have : p a = false := by simpa using hp
        rw [this]
        simp only [Bool.false_eq_true, if_false]
        split <;> lia
theorem un_less {U : List Sx} {h : List Nat} {k kp : Nat} {p q : Sx} (hk : U[k]? = some (.bin .t p q)) (hp : U[kp]? = some p) (ho : opn U h k = true) : un U (insN kp h) < un U h := by
  refine countP_lt _ (fun j _ hj => opn_mono (fun x hx => insN_mem.mpr (.inr hx)) hj) ⟨k, List.mem_range.mpr (List.getElem?_eq_some_iff.mp hk).1, ho, ?_⟩
  unfold opn
  rw [hk]
  show (!decide (p ∈ gs U (insN kp h))) = false
  rw [decide_eq_true (gs_mem.mpr ⟨kp, insN_mem.mpr (.inl rfl), hp⟩)]; rfl
noncomputable def cw : Nat -> Nat
  | 0 => 1
  | u + 1 => (u + 1) * cw u + 1
theorem sortB_s (xs : List Str) (h : xs.length < 64) : ∃ ys : List D, bSortB.run false [.list (xs.map D.str)] = ret (.list ys) := by
  have e1 : ∀ xs : List Str, strsOf (xs.map D.str) = some xs := by
    intro xs
    induction xs with
    | nil => rfl
    | cons x xs ih =>
      show (match strsOf (xs.map D.str) with
        | some bs => some (x :: bs)
        | none => none) = _
      rw [ih]
  cases xs with
  | nil => exact mk11 [] rfl
  | cons x xs =>
    refine mk11 ((sortS (x :: xs)).map .str) ?_
    funext S
    show (match intsOf ((x :: xs).map D.str) with
      | some ys => if ys.length < 64 then mkL false ((sortI ys).map .int) else stk
      | none => (match strsOf ((x :: xs).map D.str) with
        | some ys => if ys.length < 64 then mkL false ((sortS ys).map .str) else stk
        | none => stk)) S = _
    rw [e1]
    show (if (x :: xs).length < 64 then mkL false ((sortS (x :: xs)).map .str) else stk) S = _
    rw [if_pos h]; rfl
namespace L11
section
variable {S : Store} {i dn pn mn w : Nat} {U : List Sx} {m : List (List Nat × Nat)} {g h : List Nat}
theorem world_names (X : St S i dn pn mn U m) (n : Nat) (σ : Sg) (h0 : (σ[0]?).join = some (.loc i)) : ∀ g : List Nat, (∀ k ∈ g, k < U.length) -> ∃ xs : List Str, compL (t_put_world_5 (callF C11 (n + 1)) σ) (g.map fun k => D.int (k : Nat)) S = .ok (xs.map D.str) S /\ xs.length <= g.length
  | [], _ => mk12 [] rfl (Nat.le_refl _)
  | k :: g, hk => by
    refine ob12 (world_names X n σ h0 g fun k h => hk k (List.mem_cons_of_mem _ h)) fun xs e hl => ?_
    have hkl := hk k (List.mem_cons_self ..)
    have hks : U[k]? = some U[k] := List.getElem?_eq_getElem hkl
    generalize U[k] = s at hks
    have q : ∀ x : Option D, t_put_world_5 (callF C11 (n + 1)) σ (.int (k : Nat)) S = .ok x S -> compL (t_put_world_5 (callF C11 (n + 1)) σ) ((k :: g).map fun k => D.int (k : Nat)) S = .ok (match x with
        | some y => y :: xs.map D.str
        | none => xs.map D.str) S := fun x ex => by
      show bnd (t_put_world_5 (callF C11 (n + 1)) σ (.int (k : Nat))) (fun x => bnd (compL (t_put_world_5 (callF C11 (n + 1)) σ) (g.map fun k => D.int (k : Nat))) fun ys => ret (match x with
        | some y => y :: ys
        | none => ys)) S = _
      rw [bnd_st ex, bnd_st e]; rfl
    have hc : andM (cmpS .Eq (oMeth C11 (callF C11 (n + 1)) (Str.ofString "kind") (ret (.loc i)) (ret [.int (k : Nat)])) (ret (.str (Str.ofString "name")))) (ret true) S = .ok (hdS s == Str.ofString "name") S := by
      unfold andM
      rw [bnd_st (kind_is X n hks _)]
      cases hdS s == Str.ofString "name" <;> rfl
    have et : t_put_world_5 (callF C11 (n + 1)) σ (.int (k : Nat)) S = (if hdS s == Str.ofString "name" then bnd (bnd (bnd (attrM C11 (.loc i) (Str.ofString "order")) fun a => itemM a (.int (k : Nat))) fun a => itemM a (.int 1)) fun y => ret (some y) else ret none) S := by
      unfold t_put_world_5
      rw [h0]
      show bnd (andM (cmpS .Eq (oMeth C11 (callF C11 (n + 1)) (Str.ofString "kind") (ret (.loc i)) (ret [.int (k : Nat)])) (ret (.str (Str.ofString "name")))) (ret true)) (fun ok => if ok then bnd (bnd (bnd (attrM C11 (.loc i) (Str.ofString "order")) fun a => itemM a (.int (k : Nat))) fun a => itemM a (.int 1)) fun y => ret (some y) else ret none) S = _
      rw [bnd_st hc]
    cases s with
    | nm x =>
      refine mk12 (x :: xs) (q (some (.str x)) ?_) (Nat.succ_le_succ hl)
      rw [et, if_pos (show (hdS (.nm x) == Str.ofString "name") = true from rfl), bnd_assoc, bnd_assoc, bnd_st X.sea.order, Sea.at_order hks]; rfl
    | fls => exact mk12 xs (q none (et.trans rfl)) (Nat.le_succ_of_le hl)
    | bin w p r =>
      refine mk12 xs (q none (et.trans ?_)) (Nat.le_succ_of_le hl)
      cases w <;> rfl
noncomputable def Wd (n : Nat) (U : List Sx) (g : List Nat) (c : Nat) : Prop := ∀ S i dn pn mn m w ws pd b, b < U.length -> St S i dn pn mn U m -> S[w]? = some (.list ws) -> ws.length + c <= 16000000 ->
  ∃ S' m' ws', callF C11 n (Str.ofString "put_world") [.loc i, .loc w, pd, gD g, .int (b : Nat)] S = .ok .none S' /\ St S' i dn pn mn U m' /\ S'[w]? = some (.list ws') /\ ws'.length <= ws.length + c
noncomputable abbrev sgW (i w : Nat) (pd : D) (g : List Nat) (b : Nat) (h : List Nat) (x nm hr : Option D) : Sg := [some (.loc i), some (.loc w), some pd, some (gD g), some (.int (b : Nat)), some (gD h), x, nm, hr, none, none, none, none, none, none, none]
set_option tactic.hygienic true in
theorem world_loop (hU : UOk U) (hh : OkG U.length h) (n : Nat) {pd nm hd : D} {b c : Nat} (hc : ∀ k kp p q, U[k]? = some (.bin .t p q) -> U[kp]? = some p -> opn U h k = true -> kp ∉ h -> Wd (n + 1) U (insN kp h) c) :
    ∀ (ks : List Nat) (S : Store) (m : List (List Nat × Nat)) (ws : List D) (x : Option D), (∀ k ∈ ks, k < U.length) -> St S i dn pn mn U m -> S[w]? = some (.list ws) -> ws.length + ks.countP (opn U h) * c <= 16000000 ->
    ∃ S' m' ws' x', forL (fun d σ => b_put_world_1 (callF C11 (n + 1)) (put σ 6 d)) (ks.map fun k => D.int (k : Nat)) (sgW i w pd g b h x (some nm) (some hd)) S = .ok (.next (sgW i w pd g b h x' (some nm) (some hd))) S' /\ St S' i dn pn mn U m' /\ S'[w]? = some (.list ws') /\ ws'.length <= ws.length + ks.countP (opn U h) * c
  | [], S, m, ws, x, _, X, hw, _ => mk44 S m ws x rfl X hw (by simp)
  | k :: ks, S, m, ws, x, hk, X, hw, hz => by
    have hkl := hk k (List.mem_cons_self ..)
    have hks : U[k]? = some U[k] := List.getElem?_eq_getElem hkl
    generalize U[k] = s at hks
    have q : forL (fun d σ => b_put_world_1 (callF C11 (n + 1)) (put σ 6 d)) ((k :: ks).map fun k => D.int (k : Nat)) (sgW i w pd g b h x (some nm) (some hd)) = bnd (calm (b_put_world_1 (callF C11 (n + 1)) (sgW i w pd g b h (some (.int (k : Nat))) (some nm) (some hd)))) fun f => match f with
      | .next σ' => forL (fun d σ => b_put_world_1 (callF C11 (n + 1)) (put σ 6 d)) (ks.map fun k => D.int (k : Nat)) σ'
      | .ret v => ret (.ret v) := rfl
    have one : ∃ S' m' ws', b_put_world_1 (callF C11 (n + 1)) (sgW i w pd g b h (some (.int (k : Nat))) (some nm) (some hd)) S = .ok (.next (sgW i w pd g b h (some (.int (k : Nat))) (some nm) (some hd))) S' /\ St S' i dn pn mn U m' /\ S'[w]? = some (.list ws') /\ ws'.length <= ws.length + (if opn U h k then c else 0) := by
      unfold b_put_world_1
      have stay : andM (cmpS .Eq (oMeth C11 (callF C11 (n + 1)) (Str.ofString "kind") (ret (.loc i)) (ret [.int (k : Nat)])) (ret (.str (Str.ofString "then")))) (andM (cmpS .NotIn (ret (.int (k : Nat))) (ret (gD h))) (andM (cmpS .NotIn (oMeth C11 (callF C11 (n + 1)) (Str.ofString "half") (ret (.loc i)) (ret [.int (k : Nat), .int 1])) (ret (gD h))) (ret true))) S = .ok false S ->
          ∃ S' m' ws', seqM (ifM (andM (cmpS .Eq (oMeth C11 (callF C11 (n + 1)) (Str.ofString "kind") (lk (sgW i w pd g b h (some (.int (k : Nat))) (some nm) (some hd)) 0) (consM (lk (sgW i w pd g b h (some (.int (k : Nat))) (some nm) (some hd)) 6) (ret []))) (ret (.str (Str.ofString "then")))) (andM (cmpS .NotIn (lk (sgW i w pd g b h (some (.int (k : Nat))) (some nm) (some hd)) 6) (lk (sgW i w pd g b h (some (.int (k : Nat))) (some nm) (some hd)) 5)) (andM (cmpS .NotIn (oMeth C11 (callF C11 (n + 1)) (Str.ofString "half") (lk (sgW i w pd g b h (some (.int (k : Nat))) (some nm) (some hd)) 0) (consM (lk (sgW i w pd g b h (some (.int (k : Nat))) (some nm) (some hd)) 6) (consM (ret (.int (1))) (ret [])))) (lk (sgW i w pd g b h (some (.int (k : Nat))) (some nm) (some hd)) 5)) (ret true)))) (b_put_world_0 (callF C11 (n + 1)) (sgW i w pd g b h (some (.int (k : Nat))) (some nm) (some hd))) (nxt (sgW i w pd g b h (some (.int (k : Nat))) (some nm) (some hd)))) nxt S = .ok (.next (sgW i w pd g b h (some (.int (k : Nat))) (some nm) (some hd))) S' /\ St S' i dn pn mn U m' /\ S'[w]? = some (.list ws') /\ ws'.length <= ws.length + (if opn U h k then c else 0) := fun e => by
        refine mk34 S m ws ((seq_st (S1 := S) (σ := sgW i w pd g b h (some (.int (k : Nat))) (some nm) (some hd)) ?_).trans rfl) X hw (Nat.le_add_right ..)
        exact (ifM_st (b := false) (S1 := S) e).trans rfl
      have nin : ∀ j : Nat, cmpM .NotIn (.int (j : Nat)) (gD h) = ret (!decide (j ∈ h)) := fun j => by
        show bnd (inM (.int (j : Nat)) (gD h)) (fun c => ret (!c)) = _
        rw [show inM (.int (j : Nat)) (gD h) = ret (decide (j ∈ h)) from in_g h j]; rfl
      have hkind := kind_is X n hks (Str.ofString "then")
      by_cases ht : hdS s = Str.ofString "then"
      · have hs : ∃ p q, s = .bin .t p q := by
          cases s with
          | nm x => exact absurd (show Str.ofString "name" = Str.ofString "then" from ht) (by decide +kernel)
          | fls => exact absurd ht (by decide +kernel)
          | bin v p q => cases v with
            | a => exact absurd (show Str.ofString "and" = Str.ofString "then" from ht) (by decide +kernel)
            | o => exact absurd (show Str.ofString "or" = Str.ofString "then" from ht) (by decide +kernel)
            | t => exact mk21 p q rfl
        refine ob21 hs fun p r er1 => ?_; clear hs; subst er1
        refine ob02 (hU.cl .t p r (List.mem_of_getElem? hks)) fun m1 m2 => ?_
        refine ob11 (idx_of m1) fun k1 hk1 => ?_
        refine ob11 (idx_of m2) fun k2 hk2 => ?_
        have h1 := X.sea.half1 hU n hks hk1
        have h2 := X.sea.half2 hU n hks hk2
        have e3 : cmpS .NotIn (oMeth C11 (callF C11 (n + 1)) (Str.ofString "half") (ret (.loc i)) (ret [.int (k : Nat), .int 1])) (ret (gD h)) S = .ok (!decide (k1 ∈ h)) S := by
          show bnd (oMeth C11 (callF C11 (n + 1)) (Str.ofString "half") (ret (.loc i)) (ret [.int (k : Nat), .int 1])) (fun a => cmpM .NotIn a (gD h)) S = _
          rw [bnd_st h1, nin]; rfl
        have e4 : andM (cmpS .Eq (oMeth C11 (callF C11 (n + 1)) (Str.ofString "kind") (ret (.loc i)) (ret [.int (k : Nat)])) (ret (.str (Str.ofString "then")))) (andM (cmpS .NotIn (ret (.int (k : Nat))) (ret (gD h))) (andM (cmpS .NotIn (oMeth C11 (callF C11 (n + 1)) (Str.ofString "half") (ret (.loc i)) (ret [.int (k : Nat), .int 1])) (ret (gD h))) (ret true))) S = .ok (!decide (k ∈ h) && !decide (k1 ∈ h)) S := by
          unfold andM
          rw [bnd_st hkind, ht]
          show bnd (cmpM .NotIn (.int (k : Nat)) (gD h)) _ S = _
          rw [nin]
          by_cases hin : k ∈ h
          · rw [decide_eq_true hin]; rfl
          · rw [decide_eq_false hin]
            show bnd (cmpS .NotIn (oMeth C11 (callF C11 (n + 1)) (Str.ofString "half") (ret (.loc i)) (ret [.int (k : Nat), .int 1])) (ret (gD h))) _ S = _
            rw [bnd_st e3]
            cases decide (k1 ∈ h) <;> rfl
        by_cases hgo : k ∉ h /\ k1 ∉ h
        · have ho : opn U h k = true := by
            unfold opn
            rw [hks]
            show (!decide (p ∈ gs U h)) = true
            rw [decide_eq_false fun z => hgo.2 ((gs_idx hU.nd hk1).mp z)]; rfl
          rw [ho, if_pos rfl]
          have hcl : ws.length + c <= 16000000 := by
            rw [List.countP_cons, ho] at hz
            simp only [if_true] at hz
            rw [Nat.add_mul, Nat.one_mul] at hz
            lia
          refine ob34 (hc k k1 p r hks hk1 ho hgo.2 S i dn pn mn m w ws hd k2 (List.getElem?_eq_some_iff.mp hk2).1 X hw hcl) fun S1 m1' ws1 e5 X1 hw1 hl1 => ?_
          refine mk34 S1 m1' ws1 ((seq_st (S1 := S1) (σ := sgW i w pd g b h (some (.int (k : Nat))) (some nm) (some hd)) ?_).trans rfl) X1 hw1 hl1
          refine (ifM_st (b := true) (S1 := S) (e4.trans (by rw [decide_eq_false hgo.1, decide_eq_false hgo.2]; rfl))).trans ?_
          rw [if_pos rfl]
          unfold b_put_world_0
          refine (seq_st (S1 := S1) (σ := sgW i w pd g b h (some (.int (k : Nat))) (some nm) (some hd)) ?_).trans rfl
          have e0 : callF C11 (n + 1) (Str.ofString "with_one") [gD h, .int (k1 : Nat)] S = .ok (gD (insN k1 h)) S := with_ok n hh.up hgo.2 (Nat.le_trans (OkG.len16 hU hh) hU.len) S
          have ea : callN (callF C11 (n + 1)) (Str.ofString "with_one") (consM (ret (gD h)) (consM (oMeth C11 (callF C11 (n + 1)) (Str.ofString "half") (ret (.loc i)) (ret [.int (k : Nat), .int 1])) (ret []))) S = .ok (gD (insN k1 h)) S := by
            show bnd (bnd (bnd (oMeth C11 (callF C11 (n + 1)) (Str.ofString "half") (ret (.loc i)) (ret [.int (k : Nat), .int 1])) fun d => bnd (ret []) fun ds => ret (d :: ds)) fun ds => ret (gD h :: ds)) (fun ds => calm (callF C11 (n + 1) (Str.ofString "with_one") ds)) S = _
            rw [bnd_assoc, bnd_assoc, bnd_st h1]
            exact calm_st e0
          have eb : consM (ret (.loc i)) (consM (ret (.loc w)) (consM (ret hd) (consM (callN (callF C11 (n + 1)) (Str.ofString "with_one") (consM (ret (gD h)) (consM (oMeth C11 (callF C11 (n + 1)) (Str.ofString "half") (ret (.loc i)) (ret [.int (k : Nat), .int 1])) (ret [])))) (consM (oMeth C11 (callF C11 (n + 1)) (Str.ofString "half") (ret (.loc i)) (ret [.int (k : Nat), .int 2])) (ret []))))) S = .ok [.loc i, .loc w, hd, gD (insN k1 h), .int (k2 : Nat)] S := by
            generalize callN (callF C11 (n + 1)) (Str.ofString "with_one") (consM (ret (gD h)) (consM (oMeth C11 (callF C11 (n + 1)) (Str.ofString "half") (ret (.loc i)) (ret [.int (k : Nat), .int 1])) (ret []))) = y1 at ea
            generalize oMeth C11 (callF C11 (n + 1)) (Str.ofString "half") (ret (.loc i)) (ret [.int (k : Nat), .int 2]) = y2 at h2
            have c1 : consM y1 (consM y2 (ret [])) S = .ok [gD (insN k1 h), .int (k2 : Nat)] S := by
              unfold consM
              rw [bnd_st ea, bnd_assoc, bnd_st h2]; rfl
            generalize consM y1 (consM y2 (ret [])) = y at c1
            show bnd (bnd (bnd y fun ds => ret (hd :: ds)) fun ds => ret (D.loc w :: ds)) (fun ds => ret (D.loc i :: ds)) S = _
            rw [bnd_assoc, bnd_assoc, bnd_st c1]; rfl
          show bnd (bnd (consM (ret (.loc i)) (consM (ret (.loc w)) (consM (ret hd) (consM (callN (callF C11 (n + 1)) (Str.ofString "with_one") (consM (ret (gD h)) (consM (oMeth C11 (callF C11 (n + 1)) (Str.ofString "half") (ret (.loc i)) (ret [.int (k : Nat), .int 1])) (ret [])))) (consM (oMeth C11 (callF C11 (n + 1)) (Str.ofString "half") (ret (.loc i)) (ret [.int (k : Nat), .int 2])) (ret [])))))) fun ds => callF C11 (n + 1) (Str.ofString "put_world") ds) (fun _ => ret (Fl.next _)) S = _
          rw [bnd_assoc, bnd_st eb, bnd_st e5]; rfl
        · refine stay (e4.trans ?_)
          have : (!decide (k ∈ h) && !decide (k1 ∈ h)) = false := by
            by_cases z : k ∈ h
            · rw [decide_eq_true z]; rfl
            · rw [decide_eq_false z]
              have : k1 ∈ h := Classical.not_not.mp fun z1 => hgo ⟨z, z1⟩
              rw [decide_eq_true this]; rfl
          rw [this]
      · refine stay ?_
        unfold andM
        rw [bnd_st hkind]
        have : (hdS s == Str.ofString "then") = false := by simpa using ht
        rw [this]; rfl
    refine ob34 one fun S1 m1 ws1 e1 X1 hw1 hl1 => ?_; clear one
    have hcnt : (k :: ks).countP (opn U h) * c = ks.countP (opn U h) * c + (if opn U h k then c else 0) := by
      rw [List.countP_cons, Nat.add_mul]
      split <;> simp
    rw [hcnt] at hz ⊢
    obtain ⟨S2, m2, ws2, x2, e2, X2, hw2, hl2⟩ := world_loop hU hh n hc ks S1 m1 ws1 (some (.int (k : Nat))) (fun k hk' => hk k (List.mem_cons_of_mem _ hk')) X1 hw1 (by lia)
    refine mk44 S2 m2 ws2 x2 ?_ X2 hw2 (by lia)
    rw [q, bnd_st (calm_st e1)]; exact e2
end
end L11
end Mine
end

section
namespace Mine
open PySem
noncomputable def isT : Sx -> Bool
  | .bin .t _ _ => true
  | _ => false
set_option tactic.hygienic true in
theorem opn_t {U : List Sx} {h : List Nat} {k : Nat} (ho : opn U h k = true) : ∃ s, U[k]? = some s /\ isT s = true := by
  unfold opn at ho
  split at ho
  · rename_i p q e; exact mk12 _ e rfl
  · cases ho
theorem nodup_map_get {U : List Sx} (hn : U.Nodup) : ∀ l : List Nat, l.Nodup -> (∀ k ∈ l, k < U.length) -> (l.map fun k => U[k]?).Nodup
  | [], _, _ => List.nodup_nil
  | k :: l, h, hl => by
    refine ob02 (List.nodup_cons.mp h) fun h1 h2 => ?_
    refine List.nodup_cons.mpr ⟨fun z => ?_, nodup_map_get hn l h2 fun k hk => hl k (List.mem_cons_of_mem _ hk)⟩
    refine ob12 (List.mem_map.mp z) fun j hj e => ?_
    have : j = k := (List.getElem?_inj (hl j (List.mem_cons_of_mem _ hj)) hn).mp e
    exact h1 (this ▸ hj)
theorem un_le {U : List Sx} (hn : U.Nodup) (h : List Nat) : un U h <= U.countP isT := by
  have h1 : (((List.range U.length).filter (opn U h)).map fun k => U[k]?).Nodup := nodup_map_get hn _ (List.nodup_range.filter _) fun k hk => List.mem_range.mp (List.mem_filter.mp hk).1
  have h2 := h1.length_le_of_subset (l₂ := (U.filter isT).map some) fun y hy => by
    refine ob12 (List.mem_map.mp hy) fun k hk er1 => ?_; subst er1
    refine ob12 (opn_t (List.mem_filter.mp hk).2) fun s e hs => ?_
    rw [e]
    exact List.mem_map.mpr ⟨s, List.mem_filter.mpr ⟨List.mem_of_getElem? e, hs⟩, rfl⟩
  rw [List.length_map, List.length_map] at h2
  unfold un
  rw [List.countP_eq_length_filter, List.countP_eq_length_filter]; exact h2
namespace L11
section
variable {S : Store} {i dn pn mn w : Nat} {U : List Sx} {m : List (List Nat × Nat)} {g h : List Nat}
theorem c_world (n : Nat) (a b c d e : D) : callF C11 (n + 1) (Str.ofString "put_world") [a, b, c, d, e] = s_put_world (callF C11 n) a b c d e := by kernel_rfl
theorem world_step (hU : UOk U) (hg : OkG U.length g) (n : Nat) (hn : 72 <= n) {c C : Nat} (hc : ∀ h, OkG U.length h -> (∀ k ∈ g, k ∈ h) -> ∀ k kp p q, U[k]? = some (.bin .t p q) -> U[kp]? = some p -> opn U h k = true -> kp ∉ h -> Wd (n + 1) U (insN kp h) c) (hC : ∀ h, (∀ k ∈ g, k ∈ h) -> un U h * c + 1 <= C) : Wd (n + 2) U g C := by
  intro S i dn pn mn m w ws pd b hb X hw hz
  rw [c_world]
  show ∃ S' m' ws', finM (b_put_world_7 (callF C11 (n + 1)) [some (.loc i), some (.loc w), some pd, some (gD g), some (.int (b : Nat)), none, none, none, none, none, none, none, none, none, none, none]) S = .ok .none S' /\ _
  refine ob35 (filled_ok hU hg n hn b X) fun S1 m1 h e1 X1 x1 hh hgh => ?_
  have hwm : w ≠ mn := fun e => by rw [e, X.sea.md] at hw; cases hw
  have hw1 : S1[w]? = some (.list ws) := (x1.keep w (get_lt hw) hwm).trans hw
  refine ob12 (world_names X1 n (sgW i w pd g b h none none none) rfl h hh.lt) fun xs e2 hl2 => ?_
  have hxs : xs.length < 64 := by have := OkG.len16 hU hh; have := hU.len; lia
  refine ob11 (sortB_s xs hxs) fun ys e3 => ?_
  have hCh := hC h hgh
  have hap := app_go (u := w) (us := ws) (d := .tuple [pd, .tuple ys]) (m := consM (tupM (consM (ret pd) (consM (bnd (consM (bfS bSortB false (consM (ret (.list (xs.map D.str))) (ret []))) (ret [])) fun ds => bf0 .tuple ds) (ret [])))) (ret [])) hw1 (by
    show bnd (bnd (bnd (bnd (bnd (bnd (bSortB.run false [.list (xs.map D.str)]) fun d => bnd (ret []) fun ds => ret (d :: ds)) fun ds => bf0 .tuple ds) fun d => bnd (ret []) fun ds => ret (d :: ds)) fun ds => ret (pd :: ds)) fun ds => if ds.length <= sizeLine then ret (D.tuple ds) else stk) (fun d => bnd (ret []) fun ds => ret (d :: ds)) S1 = _
    rw [e3]; rfl) hw1 (by lia)
  have X2 : St (S1.set w (.list (ws ++ [.tuple [pd, .tuple ys]]))) i dn pn mn U m1 := X1.lst hw1 _
  obtain ⟨S3, m3, ws3, x3, e4, X3, hw3, hl3⟩ := world_loop (pd := pd) (g := g) (nm := .list (xs.map D.str)) (hd := .int (ws.length : Nat)) (b := b) hU hh n (hc h hh hgh) (List.range U.length) (S1.set w (.list (ws ++ [.tuple [pd, .tuple ys]]))) m1 (ws ++ [.tuple [pd, .tuple ys]]) none (fun k hk => List.mem_range.mp hk) X2 (set_at hw1) (by
    rw [List.length_append]
    show ws.length + 1 + un U h * c <= _
    lia)
  refine mk34 S3 m3 ws3 ?_ X3 hw3 ?_
  · unfold b_put_world_7
    refine (fin_put (d := gD h) (S1 := S1) e1).trans ?_
    unfold b_put_world_6
    refine (fin_put (σ := sgW i w pd g b h none none none) (d := .list (xs.map D.str)) (S1 := S1) ?_).trans ?_
    · show bnd (compL (t_put_world_5 (callF C11 (n + 1)) (sgW i w pd g b h none none none)) (h.map fun k => D.int (k : Nat))) (fun ys => mkList cfg0 pos0 ys) S1 = _
      rw [bnd_st e2]; rfl
    unfold b_put_world_4
    refine (fin_put (σ := sgW i w pd g b h none (some (.list (xs.map D.str))) none) (d := .int (ws.length : Nat)) (S1 := S1) (len_loc hw1)).trans ?_
    unfold b_put_world_3
    refine (fin_do (σ := sgW i w pd g b h none (some (.list (xs.map D.str))) (some (.int (ws.length : Nat)))) (d := .none) (S1 := S1.set w (.list (ws ++ [.tuple [pd, .tuple ys]]))) hap).trans ?_
    unfold b_put_world_2
    refine (go_st (σ := sgW i w pd g b h x3 (some (.list (xs.map D.str))) (some (.int (ws.length : Nat)))) (S1 := S3) ?_).trans rfl
    exact (range_order X2 hU).trans e4
  · rw [List.length_append] at hl3
    have : (List.range U.length).countP (opn U h) = un U h := rfl
    rw [this] at hl3
    have : [D.tuple [pd, D.tuple ys]].length = 1 := rfl
    lia
theorem world_all (hU : UOk U) : ∀ (u : Nat) (g : List Nat), OkG U.length g -> un U g <= u -> ∀ n, 72 + u <= n -> Wd (n + 2) U g (cw u) := by
  intro u
  induction u with
  | zero =>
    intro g hg hu n hn
    refine world_step (c := 0) hU hg n (by lia) (fun h hh hgh k kp p q hk hp ho _ => ?_) (fun h _ => by rw [Nat.mul_zero]; exact Nat.le_refl _)
    have := un_less hk hp ho
    have := un_mono (U := U) hgh
    lia
  | succ u ih =>
    intro g hg hu n hn
    refine world_step (c := cw u) hU hg n (by lia) (fun h hh hgh k kp p q hk hp ho hkp => ?_) (fun h hgh => ?_)
    · have h1 := un_less hk hp ho
      have h2 := un_mono (U := U) hgh
      obtain ⟨n', rfl⟩ : ∃ n', n = n' + 1 := mk11 (n - 1) (by lia)
      exact ih (insN kp h) (hh.ins (List.getElem?_eq_some_iff.mp hp).1 hkp) (by lia) n' (by lia)
    · have h2 := un_mono (U := U) hgh
      show _ <= (u + 1) * cw u + 1
      exact Nat.succ_le_succ (Nat.mul_le_mul_right _ (Nat.le_trans h2 hu))
theorem c_told (n : Nat) (a : D) : callF C11 (n + 1) (Str.ofString "told") [a] = s_told (callF C11 n) a := by kernel_rfl
noncomputable def wd (b : Bool) : Str := if b then Str.ofString "shown" else Str.ofString "worlds"
theorem cw_10 : cw 10 <= 16000000 := by decide
theorem bs_16 : bs 16 + 16 = 212 := by decide
theorem told_ok (s : Sx) (h8 : s.dep <= 8) (h16 : (pl s []).length <= 16) (h10 : (pl s []).countP isT <= 10) (n : Nat) (hn : 215 <= n) (S : Store) : ∃ b d S', callF C11 (n + 1) (Str.ofString "told") [enc s] S = .ok (.tuple [.str (wd b), d]) S' /\ (b = true ↔ Vd s) := by
  have hz : s.sz <= 900 := by
    have h1 := sz_dep s
    have h2 : 2 ^ s.dep <= 2 ^ 8 := Nat.pow_le_pow_right (by decide) h8
    have h3 : (2 : Nat) ^ 8 = 256 := by decide
    lia
  have hU := pl_uok s h8 h16
  obtain ⟨k, rfl⟩ : ∃ k, n = k + 2 := mk11 (n - 2) (by lia)
  have X : St (made0 S (pl s [])) (S.length + 1) S.length (S.length + 3) (S.length + 4) (pl s []) [] := ⟨made0_sea S _, ⟨by simp, fun _ h => nomatch h⟩⟩
  have hg : OkG (pl s []).length [] := ⟨List.Pairwise.nil, fun _ h => nomatch h⟩
  obtain ⟨S1, m1, t, e1, X1, ⟨fd, ef, hf⟩, x, ht⟩ := call_th X (theory_ok hU 16 [] hg (by simpa using h16) (k + 2) (by lia))
  refine ob11 (idx_of (pl_self s [])) fun j hj => ?_
  have hjl : j < (pl s []).length := (List.getElem?_eq_some_iff.mp hj).1
  have hiff : j ∈ fd.map (·.1) ↔ Vd s := (hf.1 j s hj).trans (der_iff hU.cl (pl_self s []))
  have e2 : itemM (.loc (S.length + 3)) (enc s) (made0 S (pl s [])) = .ok (.int (j : Nat)) (made0 S (pl s [])) := by
    have := item_tab X.sea.pl (key_enc h8) (ptab_at (pl s []) 0 j s hU.nd hj)
    rw [this, Nat.zero_add]
  have e3 : cmpS .In (ret (.int (j : Nat))) (oMeth C11 (callF C11 (k + 2)) (Str.ofString "theory_from") (ret (.loc (S.length + 1))) (ret [gD []])) (made0 S (pl s [])) = .ok (decide (j ∈ fd.map (·.1))) S1 := by
    show bnd (oMeth C11 (callF C11 (k + 2)) (Str.ofString "theory_from") (ret (.loc (S.length + 1))) (ret [gD []])) (fun b => cmpM .In (.int (j : Nat)) b) _ = _
    rw [bnd_st e1, in_tab ef (key_i j), tI_some]
  have head : ∀ r : Out D, finM (seqM (if decide (j ∈ fd.map (·.1)) then b_told_5 (callF C11 (k + 2)) [some (enc s), some (.loc (S.length + 1)), some (.int (j : Nat)), none, none, none, none, none, none] else nxt [some (enc s), some (.loc (S.length + 1)), some (.int (j : Nat)), none, none, none, none, none, none]) (b_told_2 (callF C11 (k + 2)))) S1 = r -> callF C11 (k + 2 + 1) (Str.ofString "told") [enc s] S = r := fun r hr => by
    rw [c_told]
    show finM (b_told_8 (callF C11 (k + 2)) [some (enc s), none, none, none, none, none, none, none, none]) S = _
    unfold b_told_8
    refine (fin_put (d := .loc (S.length + 1)) (S1 := made0 S (pl s [])) (new_ok s k S (by lia) h8 hz h16)).trans ?_
    unfold b_told_7
    refine (fin_put (d := .int (j : Nat)) (S1 := made0 S (pl s [])) ?_).trans ?_
    · show bnd (attrM C11 (.loc (S.length + 1)) (Str.ofString "places")) (fun a => itemM a (enc s)) _ = _
      rw [bnd_st X.sea.places]; exact e2
    unfold b_told_6
    exact (fin_if e3).trans hr
  by_cases hin : j ∈ fd.map (·.1)
  · have hder : Der (pl s []) (gs (pl s []) []) s := (hf.1 j s hj).mp hin
    have R := row_all hU 16 [] hg (by simpa using h16) j s hj hder (k + 1) (by rw [bs_16]; lia)
    have hlast : (S1 ++ [SObj.list []])[S1.length]? = some (.list []) := by simp
    have hl1 : (S1 ++ [SObj.list []]).length = S1.length + 1 := by simp
    have hmn := get_lt X1.sea.md
    have hpn := get_lt X1.sea.pl
    obtain ⟨S4, m4, nt4, rs4, d4, e4, X4, P4, w4⟩ := R (S1 ++ [.list []] ++ [.tab true []]) (S.length + 1) S.length (S.length + 3) (S.length + 4) m1 S1.length (S1.length + 1) [] [] ((X1.app _).app _)
      ⟨by rw [List.getElem?_append_left (by rw [hl1]; lia)]; exact hlast, by rw [List.getElem?_append_right (by rw [hl1]; exact Nat.le_refl _), hl1, Nat.sub_self]; rfl, by lia, by lia, List.nodup_nil, (fun _ h => nomatch h), Nat.le_refl _⟩
    refine mk32 true (.loc S1.length) S4 (head _ ?_) ⟨fun _ => hiff.mp hin, fun _ => rfl⟩
    rw [if_pos (decide_eq_true hin)]
    unfold b_told_5
    rw [fin_seq]
    refine (fin_put (S := S1) (m := lstO' (ret [])) (d := .loc S1.length) (S1 := S1 ++ [.list []]) rfl).trans ?_
    unfold b_told_4
    rw [fin_seq]
    refine (fin_do (d := d4) (S1 := S4) ?_).trans rfl
    have em : mkTab true (S1 ++ [SObj.list []]) = .ok (.loc (S1.length + 1)) (S1 ++ [.list []] ++ [.tab true []]) := by
      unfold mkTab; rw [hl1]
    show bnd (bnd (bnd (bnd (mkTab true) fun d => ret (d :: [gD [], .int (j : Nat)])) fun ds => ret (D.loc S1.length :: ds)) fun ds => ret (D.loc (S.length + 1) :: ds)) (fun ds => callF C11 (k + 2) (Str.ofString "put_row") ds) _ = _
    rw [bnd_assoc, bnd_assoc, bnd_assoc, bnd_st em]
    exact e4
  · have W := world_all hU 10 [] hg (Nat.le_trans (un_le hU.nd []) h10) k (by lia)
    have hlast : (S1 ++ [SObj.list []])[S1.length]? = some (.list []) := by simp
    refine ob34 (W (S1 ++ [.list []]) (S.length + 1) S.length (S.length + 3) (S.length + 4) m1 S1.length [] .none j hjl (X1.app _) hlast (by have := cw_10; simpa using this)) fun S4 m4 ws4 e4 X4 hw4 _ => ?_
    refine mk32 false (.tuple ws4) S4 (head _ ?_) ⟨(fun h => by cases h), fun h => absurd (hiff.mpr h) hin⟩
    rw [if_neg (by rw [decide_eq_false hin]; exact Bool.false_ne_true), fin_nxt]
    unfold b_told_2
    refine (fin_put (S := S1) (m := lstO' (ret [])) (d := .loc S1.length) (S1 := S1 ++ [.list []]) rfl).trans ?_
    unfold b_told_1
    refine (fin_do (σ := [some (enc s), some (.loc (S.length + 1)), some (.int (j : Nat)), none, some (.loc S1.length), none, none, none, none]) (d := .none) (S1 := S4) e4).trans ?_
    unfold b_told_0
    refine fin_ret_st ?_
    show bnd (bnd (bnd (bf0 .tuple [.loc S1.length]) fun d => bnd (ret []) fun ds => ret (d :: ds)) fun ds => ret (D.str (Str.ofString "worlds") :: ds)) (fun ds => if ds.length <= sizeLine then ret (D.tuple ds) else stk) S4 = _
    rw [bnd_assoc, bnd_assoc, bnd_st (tuple_loc hw4)]; rfl
end
end L11
end Mine
end

section
namespace Mine
open PySem
theorem word_ok (ix : MImpl) (cf : CF) (seed : Int) (n : Nat) (hn : n <= 8) (σ : Sg) (h2 : (σ[2]?).join = some (D.str abc)) (h0 : (σ[0]?).join = some (D.int seed)) : ∃ cs : List Nat, cs.length = n /\ (∀ c ∈ cs, LC c) /\
    comp0 (ret (.range 0 (n : Int))) (t__law_name_by_5 ix cf σ) = ret (.list (cs.map fun c => D.str (chr1 c))) := by
  obtain ⟨ys, h1, h2, h3⟩ := compL_map (Q := fun y => ∃ c, LC c /\ y = .str (chr1 c)) (turn := t__law_name_by_5 ix cf σ) (rangeL 0 (n : Int)) (by
    intro d hd
    refine ob12 (range_mem hd) fun j hj er1 => ?_; subst er1
    refine ob12 (letter_at (seed.fdiv 8 + 5 * j + j * j)) fun c hc e => ?_
    refine mk12 (.str (chr1 c)) ⟨c, hc, rfl⟩ ?_
    have m1 := mul_ints 5 (j : Int) (by decide) (by lia)
    have m2 := mul_ints (j : Int) (j : Int) (by lia) (by lia)
    unfold t__law_name_by_5
    rw [h2, h0]
    simp only [put0, putS, lk0, lkS, binS_ret, div_ints _ 8 (by decide), m1, m2, add_ints, mod_ints _ 26 (by decide), subS_ret, e]
    rfl)
  refine ob12 (chars_of h2) fun cs er1 hcs => ?_; subst er1
  refine mk13 cs ?_ hcs ?_
  · rw [range_len] at h1; simpa using h1
  · show bnd (optM (itemsOf (.range 0 (n : Int)))) _ = _
    rw [items_range (by lia)]
    show bnd (compL _ (rangeL 0 (n : Int))) _ = _
    rw [h3]; rfl
theorem ar1 {n a sp : Nat} (h : n = 1 + a) : n - (sp + 1) = a - sp := by lia
theorem ar2 {a sp : Nat} (h : sp < 1 + a) (h8 : a < 8) : sp + 1 + (a - sp) <= 8 /\ 1 <= sp + 1 + (a - sp) /\ sp + 1 + (a - sp) <= 100 /\ sp + 1 <= 100 := by lia
noncomputable def Nm (x : Str) : Prop := (∀ c ∈ x.cps.toList, LC c) /\ 1 <= x.length /\ x.length <= 8
theorem app_cps (x y : Str) : (x ++ y).cps.toList = x.cps.toList ++ y.cps.toList := by
  show (x.cps ++ y.cps).toList = _
  simp
theorem chr_lc {c2 : Nat} (h : LC c2) : ∀ c ∈ (⟨#[c2]⟩ : Str).cps.toList, LC c := by
  intro c hc
  have : c = c2 := by simpa using hc
  rw [this]; exact h
theorem name_end1 {cs : List Nat} {a c2 : Nat} (hl : cs.length = 1 + a) (hcs : ∀ c ∈ cs, LC c) (hc2 : LC c2) (h8 : 1 + a < 8) : Nm ((⟨cs.toArray⟩ : Str) ++ ⟨#[c2]⟩) := by
  have lw : (⟨cs.toArray⟩ : Str).length = 1 + a := by show cs.toArray.size = _; simp [hl]
  have lc : (⟨#[c2]⟩ : Str).length = 1 := rfl
  refine ⟨fun c hc => ?_, ?_, ?_⟩
  · rw [app_cps] at hc
    rcases List.mem_append.mp hc with q | q
    · exact hcs c q
    · exact chr_lc hc2 c q
  · rw [app_len, lw, lc]; lia
  · rw [app_len, lw, lc]; lia
theorem name_end2 {cs : List Nat} {a sp c2 : Nat} (hl : cs.length = 1 + a) (hcs : ∀ c ∈ cs, LC c) (hc2 : LC c2) (hsp : sp < 1 + a) (ha : a < 8) :
    (⟨(cs.take sp).toArray⟩ : Str).length = sp /\ (⟨(cs.drop (sp + 1)).toArray⟩ : Str).length = a - sp /\ Nm ((⟨(cs.take sp).toArray⟩ : Str) ++ ⟨#[c2]⟩ ++ ⟨(cs.drop (sp + 1)).toArray⟩) := by
  have l1 : (⟨(cs.take sp).toArray⟩ : Str).length = sp := by show (cs.take sp).toArray.size = _; simp; lia
  have l2 : (⟨(cs.drop (sp + 1)).toArray⟩ : Str).length = a - sp := by show (cs.drop (sp + 1)).toArray.size = _; rw [List.size_toArray, List.length_drop]; exact ar1 hl
  have lc : (⟨#[c2]⟩ : Str).length = 1 := rfl
  refine ob04 (ar2 hsp ha) fun r1 r2 r3 r4 => ?_
  refine ⟨l1, l2, fun c hc => ?_, ?_, ?_⟩
  · rw [app_cps, app_cps] at hc
    rcases List.mem_append.mp hc with q | q
    · rcases List.mem_append.mp q with q | q
      · exact hcs c (List.mem_of_mem_take q)
      · exact chr_lc hc2 c q
    · exact hcs c (List.mem_of_mem_drop q)
  · rw [app_len, app_len, l1, l2, lc]; exact r2
  · rw [app_len, app_len, l1, l2, lc]; exact r1
noncomputable def IxOk (ix : MImpl) : Prop := ∀ c, LC c -> ∃ k : Nat, methS ix (ret (.str abc)) (ret [.str (chr1 c)]) = ret (.int k)
theorem name_by_ok (ix : MImpl) (hix : IxOk ix) (cf : CF) (seed : Int) (k : Nat) (hk : k <= 10) : ∃ x : Str, s__law_name_by ix cf (.int seed) (.int k) = ret (.str x) /\ Nm x := by
  refine ob12 (fmod_lit seed 8 8 (by decide) rfl) fun a ha ea => ?_
  have es : (1 : Int) + seed.fmod 8 = ((1 + a : Nat) : Int) := by rw [ea]; lia
  refine ob13 (word_ok ix cf seed (1 + a) (by lia) [some (.int seed), some (.int k), some (.str abc), some (.int ((1 + a : Nat) : Int)), none, none, none, none] rfl rfl) fun cs hl hcs hw => ?_
  refine ob12 (fmod_nat (seed.fdiv 208) (n := 1 + a) (by lia)) fun sp hsp esp => ?_
  unfold s__law_name_by b__law_name_by_8
  simp only [bnd_ret, seqM_next, put0, putS]
  unfold b__law_name_by_7
  simp only [bnd_ret, seqM_next, put0, putS, lk0, lkS, binS_ret, mod_ints _ 8 (by decide), add_ints, es]
  unfold b__law_name_by_6
  simp only [lk0, lkS, consM_ret, bnd_ret, range1]
  rw [hw, consM_ret, meth_join cs (by lia)]
  simp only [bnd_ret, seqM_next, put0, putS]
  unfold b__law_name_by_4
  simp only [bnd_ret, seqM_next, put0, putS, lk0, lkS, binS_ret, div_ints _ 208 (by decide)]
  rw [mod_ints _ _ (by lia), esp]
  simp only [bnd_ret, seqM_next]
  have hg : (⟨cs.toArray⟩ : Str).cps.toList[sp]? = some cs[sp] := by
    show cs.toArray.toList[sp]? = _
    simp
  have hc : LC cs[sp] := hcs _ (List.getElem_mem (by lia))
  refine ob11 (hix _ hc) fun ik hik => ?_
  have hik' : methS ix (ret (.str abc)) (ret [.str ⟨#[cs[sp]]⟩]) = ret (.int ik) := hik
  refine ob12 (fmod_lit (seed.fdiv 1664) 8 8 (by decide) rfl) fun b hb eb => ?_
  refine ob12 (letter_at (ik + (k : Int) * (1 + (b : Int)))) fun c2 hc2 e2 => ?_
  have hm : bin0 .Mult (.int (k : Int)) (.int (1 + (b : Int))) = ret (.int ((k : Int) * (1 + (b : Int)))) := mul_ints _ _ (by rw [Int.natAbs_natCast]; exact Nat.lt_of_le_of_lt hk (by decide)) (by rw [show (1 : Int) + (b : Int) = ((1 + b : Nat) : Int) from rfl, Int.natAbs_natCast]; exact Nat.lt_of_lt_of_le (Nat.add_lt_add_left hb 1) (by decide))
  unfold b__law_name_by_3
  simp only [bnd_ret, seqM_next, put0, putS, lk0, lkS, subS_ret, itemS_at hg, consM_ret, hik', binS_ret, div_ints _ 1664 (by decide), mod_ints _ 8 (by decide), add_ints, eb, hm, mod_ints _ 26 (by decide), e2]
  unfold b__law_name_by_2
  have lw : (⟨cs.toArray⟩ : Str).length = 1 + a := by show cs.toArray.size = _; simp [hl]
  have lc : (⟨#[c2]⟩ : Str).length = 1 := rfl
  simp only [lk0, lkS, cmpS_ret, eq_ints, lt_ints, binS_ret, div_ints _ 13312 (by decide), bnd_ret, mod_ints _ 2 (by decide), andM_rr, Bool.and_true]
  cases tt : (((k : Int) == 2) && ((((seed.fdiv 13312).fmod 2) == 1) && decide (((1 + a : Nat) : Int) < 8))) with
  | true =>
    have h8 : 1 + a < 8 := by
      exact Int.ofNat_lt.mp (of_decide_eq_true (Bool.and_eq_true_iff.mp (Bool.and_eq_true_iff.mp tt).2).2)
    unfold b__law_name_by_1
    simp only [ifM_true, lk0, lkS, binS_ret]
    rw [add_strs _ _ (by rw [lw, lc]; lia)]
    exact mk12 _ rfl (name_end1 hl hcs hc2 h8)
  | false =>
    refine ob03 (name_end2 hl hcs hc2 hsp ha) fun l1 l2 hN => ?_
    refine ob04 (ar2 hsp ha) fun r1 r2 r3 r4 => ?_
    have ey1 : sli0 (.str ⟨cs.toArray⟩) .none (.int sp) = ret (.str ⟨(cs.take sp).toArray⟩) := by
      show ret (D.str ⟨(cut none (some (sp : Int)) cs.toArray.toList).toArray⟩) = _
      rw [cut_to (show sp <= cs.length by lia)]
    have ey2 : sli0 (.str ⟨cs.toArray⟩) (.int ((sp : Int) + 1)) .none = ret (.str ⟨(cs.drop (sp + 1)).toArray⟩) := by
      show ret (D.str ⟨(cut (some ((sp + 1 : Nat) : Int)) none cs.toArray.toList).toArray⟩) = _
      rw [cut_from (show sp + 1 <= cs.length by lia)]
    unfold b__law_name_by_0 nxt
    simp only [ifM_false, seqM_next, lk0, lkS, sliS_ret, ey1, binS_ret, add_ints, ey2]
    rw [add_strs _ _ (by rw [l1, lc]; exact r4), binS_ret, add_strs _ _ (by rw [app_len, l1, l2, lc]; exact r3)]
    exact mk12 _ rfl hN
end Mine
end

section
namespace Mine
open PySem
theorem cell_at_ok (cf : CF) (xs : List Int) (k : Nat) : ∃ i : Int, s__law_cell_at cf (.list (xs.map D.int)) (.int k) = ret (.int i) := by
  unfold s__law_cell_at b__law_cell_at_2
  simp only [lk0, lkS, consM_ret, bnd_ret, len_lst, cmpS_ret, lt_ints, callN_ret, calm_ret]
  by_cases h : k < xs.length
  · have e : decide ((k : Int) < ((xs.map D.int).length : Int)) = true := by simp; exact h
    have hg : (xs.map D.int)[k]? = some (.int xs[k]) := by rw [List.getElem?_map, List.getElem?_eq_getElem h]; rfl
    unfold b__law_cell_at_1
    rw [e, ifM_true, lk0, lkS, lk0, subS_ret, itemL_at hg]
    exact mk11 (xs[k]) rfl
  · have e : decide ((k : Int) < ((xs.map D.int).length : Int)) = false := by simp; lia
    rw [e]
    exact mk11 0 rfl
end Mine
end

section
namespace Mine
open PySem
theorem words4 : lst0 (consM (ret (.str (Str.ofString "and"))) (consM (ret (.str (Str.ofString "or"))) (consM (ret (.str (Str.ofString "then"))) (consM (ret (.str (Str.ofString "then"))) (ret []))))) = ret (.list [.str (Str.ofString "and"), .str (Str.ofString "or"), .str (Str.ofString "then"), .str (Str.ofString "then")]) := lst0_ret _ (by decide)
theorem cut_last {α : Type} (k : Nat) (l : List α) (h0 : 0 < k) (h : k <= l.length) : Mine.cut none (some (-(k : Int))) l = l.take (l.length - k) := by
  have e : clip (some (-(k : Int))) l.length l.length = l.length - k := by
    show (max 0 (min (if -(k : Int) < 0 then -(k : Int) + l.length else -(k : Int)) l.length)).toNat = _
    rw [if_pos (by lia)]
    lia
  unfold Mine.cut
  rw [e]; rfl
end Mine
end

section
namespace Mine
open PySem
theorem word4x (i : Int) : ∃ w : W3, itemM (.list [.str (Str.ofString "and"), .str (Str.ofString "or"), .str (Str.ofString "then"), .str (Str.ofString "then")]) (.int (i.fmod 4)) = ret (.str w.s) := by
  refine ob12 (fmod_lit i 4 4 (by decide) rfl) fun k hk e => ?_
  rw [e]
  apply lt4 k hk
  · exact mk11 .a (itemL_at rfl)
  · exact mk11 .o (itemL_at rfl)
  · exact mk11 .t (itemL_at rfl)
  · exact mk11 .t (itemL_at rfl)
theorem joinedX (cf : CF) (i : Int) (a b : Sx) : ∃ w c d, s__law_joined cf (.int i) (enc a) (enc b) = ret (enc (.bin w c d)) /\ ((c = a /\ d = b) \/ (c = b /\ d = a)) := by
  refine ob11 (word4x i) fun w hw => ?_
  have w1 := words4
  simp only [consM_ret, callN_ret, calm_ret] at w1
  unfold s__law_joined b__law_joined_2
  simp only [lk0, lkS, binS_ret, div_ints _ 4 (by decide), bnd_ret, mod_ints _ 2 (by decide), cmpS_ret, eq_ints]
  cases ((i.fdiv 4).fmod 2 == 1) with
  | true =>
    unfold b__law_joined_1
    simp only [lk0, lkS, consM_ret, w1, binS_ret, mod_ints _ 4 (by decide), subS_ret, hw, callN_ret, calm_ret]
    exact mk32 w b a (by rw [ifM_true, tupM_ret _ (by simp)]; rfl) (.inr ⟨rfl, rfl⟩)
  | false =>
    refine mk32 w a b ?_ (.inl ⟨rfl, rfl⟩)
    rw [ifM_false]
    show finM (b__law_joined_0 cf _) = _
    unfold b__law_joined_0
    simp only [lk0, lkS, consM_ret, w1, binS_ret, mod_ints _ 4 (by decide), subS_ret, hw, callN_ret, calm_ret]
    rw [tupM_ret _ (by simp)]; rfl
noncomputable def inN (NL : List Str) : Sx -> Prop
  | .nm x => x ∈ NL
  | .fls => True
  | .bin _ p q => inN NL p /\ inN NL q
structure PlX (NL : List Str) (k : Nat) (p : List Sx) : Prop where
  ex : ∃ (K : List Sx) (md : Nat), SubCl K /\ (∀ s ∈ p, s ∈ K /\ s.dep <= md /\ inN NL s) /\ K.length + p.length <= 2 * k + 1 /\ md + p.length <= k + 1 /\ 1 <= md /\ K.countP isT + p.length <= k
theorem cnt_t (K : List Sx) (s : Sx) : (s :: K).countP isT <= K.countP isT + 1 := by rw [List.countP_cons]; split <;> lia
theorem cnt_f (K : List Sx) {s : Sx} (h : isT s = false) : (s :: K).countP isT = K.countP isT := by rw [List.countP_cons, h]; rfl
section
variable {NL : List Str} {k l n : Nat} {p : List Sx}
theorem PlX.nil : PlX NL 0 [] := ⟨[], 1, cl_nil, (fun _ h => by cases h), by decide, by decide, by decide, by decide⟩
theorem PlX.up (h : PlX NL k p) (hk : k <= l) : PlX NL l p := let ⟨K, md, a, b, c, d, e, f⟩ := h.ex; ⟨K, md, a, b, by lia, by lia, e, by lia⟩
theorem PlX.name (h : PlX NL k p) {x : Str} (hx : x ∈ NL) : PlX NL (k + 1) (p ++ [.nm x]) := by
  refine ob26 h.ex fun K md a b c d e f => ?_
  refine ⟨.nm x :: K, md, cl_nm a, fun s hs => ?_, by simp; lia, by simp; lia, e, by rw [cnt_f K rfl]; simp; lia⟩
  rcases List.mem_append.mp hs with hs | hs
  · exact ⟨List.mem_cons_of_mem _ (b s hs).1, (b s hs).2⟩
  · rw [List.mem_singleton.mp hs]; exact ⟨List.mem_cons_self .., e, hx⟩
theorem PlX.fls (h : PlX NL k p) : PlX NL (k + 1) (p ++ [.fls]) := by
  refine ob26 h.ex fun K md a b c d e f => ?_
  refine ⟨.fls :: K, md, cl_fls a, fun s hs => ?_, by simp; lia, by simp; lia, e, by rw [cnt_f K rfl]; simp; lia⟩
  rcases List.mem_append.mp hs with hs | hs
  · exact ⟨List.mem_cons_of_mem _ (b s hs).1, (b s hs).2⟩
  · rw [List.mem_singleton.mp hs]; exact ⟨List.mem_cons_self .., e, trivial⟩
theorem PlX.copy (h : PlX NL k p) {s : Sx} (hs : s ∈ p) : PlX NL (k + 1) (p ++ [s]) := by
  refine ob26 h.ex fun K md a b c d e f => ?_
  refine ⟨K, md, a, fun t ht => ?_, by simp; lia, by simp; lia, e, by simp; lia⟩
  rcases List.mem_append.mp ht with ht | ht
  · exact b t ht
  · rw [List.mem_singleton.mp ht]; exact b s hs
theorem PlX.deny (h : PlX NL k p) {s : Sx} (hs : s ∈ p) (hn : n + 1 <= p.length) : PlX NL (k + 1) (p.take n ++ [.bin .t s .fls]) := by
  refine ob26 h.ex fun K md a b c d e f => ?_
  have hl : (p.take n).length <= n := by rw [List.length_take]; lia
  have h1 := cnt_t (.fls :: K) (.bin .t s .fls)
  have h2 := cnt_f K (s := .fls) rfl
  refine ⟨.bin .t s .fls :: .fls :: K, md + 1, cl_bin (cl_fls a) (List.mem_cons_of_mem _ (b s hs).1) (List.mem_cons_self ..), fun t ht => ?_, by simp; lia, by simp; lia, by lia, by rw [List.length_append]; show _ + (_ + 1) <= _; lia⟩
  rcases List.mem_append.mp ht with ht | ht
  · have := b t (List.mem_of_mem_take ht); exact ⟨List.mem_cons_of_mem _ (List.mem_cons_of_mem _ this.1), by lia, this.2.2⟩
  · rw [List.mem_singleton.mp ht]
    exact ⟨List.mem_cons_self .., by show max s.dep 1 + 1 <= _; have := (b s hs).2.1; lia, (b s hs).2.2, trivial⟩
theorem PlX.join (h : PlX NL k p) {w : W3} {s t : Sx} (hs : s ∈ p) (ht : t ∈ p) (hn : n + 2 <= p.length) : PlX NL k (p.take n ++ [.bin w s t]) := by
  refine ob26 h.ex fun K md a b c d e f => ?_
  have hl : (p.take n).length <= n := by rw [List.length_take]; lia
  have h1 := cnt_t K (.bin w s t)
  refine ⟨.bin w s t :: K, md + 1, cl_bin a (b s hs).1 (b t ht).1, fun u hu => ?_, by simp; lia, by simp; lia, by lia, by rw [List.length_append]; show _ + (_ + 1) <= _; lia⟩
  rcases List.mem_append.mp hu with hu | hu
  · have := b u (List.mem_of_mem_take hu); exact ⟨List.mem_cons_of_mem _ this.1, by lia, this.2.2⟩
  · rw [List.mem_singleton.mp hu]
    exact ⟨List.mem_cons_self .., by show max s.dep t.dep + 1 <= _; have := (b s hs).2.1; have := (b t ht).2.1; lia, (b s hs).2.2, (b t ht).2.2⟩
end
noncomputable def nl (nf : Nat -> Str) : List Str := [nf 0, nf 1, nf 2, nf 3]
theorem nl_mem (nf : Nat -> Str) {k : Nat} (hk : k < 4) : nf k ∈ nl nf := by
  apply lt4 k hk
  · exact List.mem_cons_self ..
  · exact List.mem_cons_of_mem _ (List.mem_cons_self ..)
  · exact List.mem_cons_of_mem _ (List.mem_cons_of_mem _ (List.mem_cons_self ..))
  · exact List.mem_cons_of_mem _ (List.mem_cons_of_mem _ (List.mem_cons_of_mem _ (List.mem_cons_self ..)))
theorem cut_enc (k : Nat) (p : List Sx) (h0 : 0 < k) (h : k <= p.length) : Mine.cut none (some (-(k : Int))) (p.map enc) = (p.take (p.length - k)).map enc := by
  rw [cut_last k _ h0 (by rw [List.length_map]; exact h), List.length_map, List.map_take]
theorem last1x {p : List Sx} (h : 0 < p.length) : ∃ s ∈ p, itemM (.list (p.map enc)) (.int (-1)) = ret (enc s) := by
  have hg : p[p.length - 1]? = some p[p.length - 1] := List.getElem?_eq_getElem (by lia)
  exact mk12 _ (List.mem_of_getElem? hg) (itemL_neg (k := 1) (by decide) (by rw [List.length_map]; exact h) (by rw [List.length_map, List.getElem?_map, hg]; rfl))
theorem last2x {p : List Sx} (h : 1 < p.length) : ∃ s ∈ p, itemM (.list (p.map enc)) (.int (-2)) = ret (enc s) := by
  have hg : p[p.length - 2]? = some p[p.length - 2] := List.getElem?_eq_getElem (by lia)
  exact mk12 _ (List.mem_of_getElem? hg) (itemL_neg (k := 2) (by decide) (by rw [List.length_map]; exact h) (by rw [List.length_map, List.getElem?_map, hg]; rfl))
theorem app_enc (p : List Sx) (s : Sx) : p.map enc ++ [enc s] = (p ++ [s]).map enc := by rw [List.map_append]; rfl
theorem stepX (cf : CF) (c seed : Int) (nf : Nat -> Str) {k : Nat} {p : List Sx} (hp : PlX (nl nf) k p) (hl : p.length <= 100)
    (hJ : ∀ (i : Int) (a b : Sx), ∃ w c d, cf (Str.ofString "_law_joined") [.int i, enc a, enc b] = ret (enc (.bin w c d)) /\ ((c = a /\ d = b) \/ (c = b /\ d = a)))
    (hN : ∀ (k : Nat), k <= 10 -> cf (Str.ofString "_law_name_by") [.int seed, .int k] = ret (.str (nf k))) :
    ∃ q, s__law_step cf (.list (p.map enc)) (.int c) (.int seed) = ret (.list (q.map enc)) /\ PlX (nl nf) (k + 1) q /\ q.length <= p.length + 1 := by
  refine ob12 (fmod_lit (c.fdiv 10) 4 4 (by decide) rfl) fun k4 hk4 ek4 => ?_
  have hx := hN k4 (by lia)
  have hlm : (p.map enc).length = p.length := List.length_map ..
  unfold s__law_step b__law_step_10
  simp only [lk0, lkS, put0, putS, binS_ret, mod_ints _ 10 (by decide), bnd_ret, seqM_next]
  unfold b__law_step_9
  simp only [lk0, lkS, put0, putS, binS_ret, div_ints _ 10 (by decide), bnd_ret, seqM_next]
  unfold b__law_step_8
  simp only [lk0, lkS, cmpS_ret, eq_ints]
  cases h4 : (c.fmod 10 == 4) with
  | true =>
    unfold b__law_step_7
    simp only [lk0, consM_ret, fls_t, lst1, binS_ret, callN_ret, calm_ret]
    rw [add_lsts _ _ (by simp; lia)]
    exact mk13 (p ++ [.fls]) (by rw [<- app_enc]; rfl) hp.fls (by simp)
  | false =>
    rw [ifM_false]
    show ∃ q, finM (b__law_step_6 cf _) = _ /\ _
    unfold b__law_step_6
    simp only [lk0, lkS, consM_ret, bnd_ret, len_lst, cmpS_ret, eq_ints, gt_ints, andM_rr, Bool.and_true, callN_ret, calm_ret]
    cases h5 : ((c.fmod 10 == 5) && decide ((0 : Int) < ((p.map enc).length : Int))) with
    | true =>
      have hpos : 0 < p.length := by simp only [Bool.and_eq_true, decide_eq_true_eq] at h5; lia
      refine ob12 (fmod_nat (c.fdiv 10) (n := (p.map enc).length) (by lia)) fun j hj ej => ?_
      have hj' : j < p.length := by lia
      have hg : (p.map enc)[j]? = some (enc p[j]) := by rw [List.getElem?_map, List.getElem?_eq_getElem hj']; rfl
      unfold b__law_step_5
      simp only [lk0, lkS, consM_ret, bnd_ret, len_lst, binS_ret, callN_ret, calm_ret]
      rw [mod_ints _ _ (by lia), ej, subS_ret, itemL_at hg, consM_ret, lst1, binS_ret, add_lsts _ _ (by simp; lia)]
      exact mk13 (p ++ [p[j]]) (by rw [<- app_enc]; rfl) (hp.copy (List.getElem_mem hj')) (by simp)
    | false =>
      rw [ifM_false]
      show ∃ q, finM (b__law_step_4 cf _) = _ /\ _
      unfold b__law_step_4
      simp only [lk0, lkS, consM_ret, bnd_ret, len_lst, cmpS_ret, eq_ints, gt_ints, andM_rr, Bool.and_true, callN_ret, calm_ret]
      cases h6 : ((c.fmod 10 == 6) && decide ((0 : Int) < ((p.map enc).length : Int))) with
      | true =>
        have hpos : 0 < p.length := by simp only [Bool.and_eq_true, decide_eq_true_eq] at h6; lia
        refine ob12 (last1x hpos) fun s hs es => ?_
        have ec := cut_enc 1 p (by decide) hpos
        have ec' : Mine.cut none (some (-1)) (p.map enc) = (p.take (p.length - 1)).map enc := ec
        unfold b__law_step_3
        simp only [lk0, bnd_ret, neg_int, sliS_ret, sl_lst, subS_ret, es, consM_ret, fls_t, tup3, lst1, binS_ret, callN_ret, calm_ret, ec']
        rw [add_lsts _ _ (by simp; lia)]
        exact mk13 (p.take (p.length - 1) ++ [.bin .t s .fls]) (by rw [<- app_enc]; rfl) (hp.deny hs (by lia)) (by simp)
      | false =>
        rw [ifM_false]
        show ∃ q, finM (b__law_step_2 cf _) = _ /\ _
        unfold b__law_step_2
        simp only [lk0, lkS, consM_ret, bnd_ret, len_lst, cmpS_ret, eq_ints, gt_ints, andM_rr, Bool.and_true, callN_ret, calm_ret]
        cases h7 : (decide ((6 : Int) < c.fmod 10) && decide ((1 : Int) < ((p.map enc).length : Int))) with
        | true =>
          have hpos : 1 < p.length := by simp only [Bool.and_eq_true, decide_eq_true_eq] at h7; lia
          refine ob12 (last1x (Nat.lt_of_succ_lt hpos)) fun s1 hs1 es1 => ?_
          refine ob12 (last2x hpos) fun s2 hs2 es2 => ?_
          have ec' : Mine.cut none (some (-2)) (p.map enc) = (p.take (p.length - 2)).map enc := cut_enc 2 p (by decide) hpos
          refine ob32 (hJ (c.fdiv 10) s2 s1) fun w c1 c2 ej hcd => ?_
          unfold b__law_step_1
          simp only [lk0, lkS, bnd_ret, neg_int, sliS_ret, sl_lst, subS_ret, es1, es2, consM_ret, ej, lst1, binS_ret, callN_ret, calm_ret, ec']
          rw [add_lsts _ _ (by simp; lia)]
          refine mk13 (p.take (p.length - 2) ++ [.bin w c1 c2]) (by rw [<- app_enc]; rfl) ?_ (by simp)
          rcases hcd with ⟨rfl, rfl⟩ | ⟨rfl, rfl⟩
          · exact (hp.join hs2 hs1 (by lia)).up (Nat.le_succ _)
          · exact (hp.join hs1 hs2 (by lia)).up (Nat.le_succ _)
        | false =>
          rw [ifM_false]
          show ∃ q, finM (b__law_step_0 cf _) = _ /\ _
          unfold b__law_step_0
          simp only [lk0, lkS, binS_ret, mod_ints _ 4 (by decide), ek4, consM_ret, bnd_ret, hx, tup2, lst1, callN_ret, calm_ret]
          rw [add_lsts _ _ (by simp; lia)]
          exact mk13 (p ++ [.nm (nf k4)]) (by rw [<- app_enc]; rfl) (hp.name (nl_mem nf hk4)) (by simp)
theorem statementX (cf : CF) (seed : Int) (nf : Nat -> Str) (cs : List Int) (hcs : cs.length <= 30)
    (hS : ∀ (c : Int) (k : Nat) (p : List Sx), PlX (nl nf) k p -> p.length <= 100 -> ∃ q, cf (Str.ofString "_law_step") [.list (p.map enc), .int c, .int seed] = ret (.list (q.map enc)) /\ PlX (nl nf) (k + 1) q /\ q.length <= p.length + 1)
    (hN : ∀ (k : Nat), k <= 10 -> cf (Str.ofString "_law_name_by") [.int seed, .int k] = ret (.str (nf k))) :
    ∃ d, s__law_statement_by cf (.list (cs.map D.int)) (.int seed) = ret d /\ ∃ s, d = enc s /\ s.dep <= max 1 cs.length /\ inN (nl nf) s /\ ∃ K, SubCl K /\ s ∈ K /\ K.length <= 2 * cs.length + 1 /\ K.countP isT <= cs.length := by
  unfold s__law_statement_by b__law_statement_by_8
  simp only [ls0, bnd_ret, seqM_next, put0, putS]
  unfold b__law_statement_by_7
  simp only [lk0]
  show ∃ d, finM (seqM (forL _ (cs.map D.int) _) _) = ret d /\ _
  refine loop_count (P := fun d => ∃ s, d = enc s /\ s.dep <= max 1 cs.length /\ inN (nl nf) s /\ ∃ K, SubCl K /\ s ∈ K /\ K.length <= 2 * cs.length + 1 /\ K.countP isT <= cs.length) (fun k σ => ∃ p o r, σ = some (.list (cs.map D.int)) :: some (.int seed) :: some (.list (p.map enc)) :: o :: r /\ PlX (nl nf) k p /\ p.length <= k) (fun d hd k σ hm hσ => ?_) ⟨[], none, _, rfl, PlX.nil, Nat.le_refl _⟩ fun σ' hσ' => ?_
  · refine ob12 (List.mem_map.mp hd) fun c _ er1 => ?_; subst er1
    refine ob33 hσ fun p o r er1 h1 h2 => ?_; clear hσ; subst er1
    have hm' : k < 30 := by simp at hm; lia
    refine ob13 (hS c k p h1 (by lia)) fun q e1 e2 e3 => ?_
    unfold b__law_statement_by_6
    simp only [put0, putS, lk0, lkS, consM_ret, bnd_ret, e1, seqM_next, callN_ret, calm_ret]
    exact mk12 _ ⟨q, _, _, rfl, e2, by lia⟩ rfl
  · refine ob33 hσ' fun p o r er1 h1 h2 => ?_; clear hσ'; subst er1
    rw [List.length_map] at h1 h2
    unfold b__law_statement_by_5
    refine loop_while (P := fun d => ∃ s, d = enc s /\ s.dep <= max 1 cs.length /\ inN (nl nf) s /\ ∃ K, SubCl K /\ s ∈ K /\ K.length <= 2 * cs.length + 1 /\ K.countP isT <= cs.length) (fun n σ => ∃ p r, σ = some (.list (cs.map D.int)) :: some (.int seed) :: some (.list (p.map enc)) :: r /\ PlX (nl nf) cs.length p /\ p.length <= n /\ n <= 30) (fun σ => ∃ p r, σ = some (.list (cs.map D.int)) :: some (.int seed) :: some (.list (p.map enc)) :: r /\ PlX (nl nf) cs.length p) 30 (fun n σ hσ => ?_)
      ⟨p, _, rfl, h1, by lia, by lia⟩ (by show 30 < 2 ^ 30; decide) fun σ' hσ' => ?_
    · refine ob24 hσ fun p r er1 h1 h3 h4 => ?_; clear hσ; subst er1
      have hlm : (p.map enc).length = p.length := List.length_map ..
      unfold w__law_statement_by_3
      simp only [lk0, lkS, consM_ret, bnd_ret, len_lst, cmpS_ret, gt_ints, callN_ret, calm_ret]
      by_cases hl : 1 < p.length
      · right
        have : decide ((1 : Int) < ((p.map enc).length : Int)) = true := by simp; lia
        refine ⟨by rw [this], n - 1, ?_⟩
        refine ob12 (last1x (Nat.lt_of_succ_lt hl)) fun s1 hs1 es1 => ?_
        refine ob12 (last2x hl) fun s2 hs2 es2 => ?_
        have ec' : Mine.cut none (some (-2)) (p.map enc) = (p.take (p.length - 2)).map enc := cut_enc 2 p (by decide) hl
        unfold b__law_statement_by_4
        simp only [lk0, lkS, bnd_ret, neg_int, sliS_ret, sl_lst, subS_ret, es1, es2, consM_ret, tup3, lst1, binS_ret, callN_ret, calm_ret, ec']
        rw [add_lsts _ _ (by simp; lia)]
        exact mk13 _ (by lia) ⟨p.take (p.length - 2) ++ [.bin .t s2 s1], _, by rw [<- app_enc]; rfl, h1.join hs2 hs1 (by lia), by simp; lia, by lia⟩ rfl
      · left
        have : decide ((1 : Int) < ((p.map enc).length : Int)) = false := by simp; lia
        exact ⟨by rw [this], p, r, rfl, h1⟩
    · refine ob22 hσ' fun p r er1 h1 => ?_; clear hσ'; subst er1
      have hx' : cf (Str.ofString "_law_name_by") [.int seed, .int 0] = ret (.str (nf 0)) := hN 0 (by lia)
      unfold b__law_statement_by_2
      simp only [lk0, lkS, ls0, cmpS_ret, eq_nil' fun d (hd : d ∈ p.map enc) => by
        refine ob12 (List.mem_map.mp hd) fun s _ er1 => ?_; subst er1
        exact (⟨_, enc_py s⟩ : Pl (enc s))]
      cases p with
      | nil =>
        unfold b__law_statement_by_1
        simp only [lk0, lkS, consM_ret, bnd_ret, hx', tup2, callN_ret, calm_ret]
        exact ⟨_, rfl, .nm (nf 0), rfl, by show 1 <= _; lia, nl_mem nf (by decide), [.nm (nf 0)], cl_nm cl_nil, List.mem_cons_self .., by show 1 <= _; lia, Nat.zero_le _⟩
      | cons s p =>
        have hi : itemM (.list ((s :: p).map enc)) (.int 0) = ret (enc s) := itemL_at (k := 0) rfl
        refine ob26 h1.ex fun K md a b c d e f => ?_
        rw [List.length_cons] at c d f
        refine ⟨enc s, ?_, s, rfl, by have := (b s (List.mem_cons_self ..)).2.1; lia, (b s (List.mem_cons_self ..)).2.2, K, a, (b s (List.mem_cons_self ..)).1, by lia, by lia⟩
        show finM (b__law_statement_by_0 cf _) = _
        unfold b__law_statement_by_0
        simp only [lk0, lkS, subS_ret, hi]
        rfl
end Mine
end

section
namespace Mine
open PySem
noncomputable def ren (r : Str -> Str) : Sx -> Sx
  | .nm x => .nm (r x)
  | .fls => .fls
  | .bin w p q => .bin w (ren r p) (ren r q)
theorem ren_dep (r : Str -> Str) : ∀ s : Sx, (ren r s).dep = s.dep
  | .nm _ => rfl
  | .fls => rfl
  | .bin w p q => by show max (ren r p).dep (ren r q).dep + 1 = max p.dep q.dep + 1; rw [ren_dep r p, ren_dep r q]
theorem ren_t (r : Str -> Str) (s : Sx) : isT (ren r s) = isT s := by
  cases s with
  | nm _ => rfl
  | fls => rfl
  | bin w p q => cases w <;> rfl
structure Dr (s : Sx) : Prop where
  dep : s.dep <= 6
  bd : ∃ K : List Sx, SubCl K /\ s ∈ K /\ K.length <= 13 /\ K.countP isT <= 8
  nms : ∃ NL : List Str, NL.length <= 4 /\ inN NL s
theorem ren_bd (r : Str -> Str) (t : Sx) (h : (pl t []).length <= 13) (h' : (pl t []).countP isT <= 8) : ∃ K : List Sx, SubCl K /\ ren r t ∈ K /\ K.length <= 13 /\ K.countP isT <= 8 := by
  refine mk14 ((pl t []).map (ren r)) (fun w p q m => ?_) (List.mem_map.mpr ⟨t, pl_self t [], rfl⟩) (by rw [List.length_map]; exact h) ?_
  · refine ob12 (List.mem_map.mp m) fun u hu e => ?_
    have hc := pl_cl t [] cl_nil
    cases u with
    | nm x => cases e
    | fls => cases e
    | bin w' p' q' =>
      cases e
      exact ⟨List.mem_map.mpr ⟨p', (hc _ _ _ hu).1, rfl⟩, List.mem_map.mpr ⟨q', (hc _ _ _ hu).2, rfl⟩⟩
  · rw [List.countP_map, List.countP_congr (q := isT) fun x _ => by show isT (ren r x) = true ↔ _; rw [ren_t]]; exact h'
noncomputable def nA : Sx := .nm (Str.ofString "a")
noncomputable def nB : Sx := .nm (Str.ofString "b")
noncomputable def nC : Sx := .nm (Str.ofString "c")
noncomputable def tH (p q : Sx) : Sx := .bin .t p q
noncomputable def oR (p q : Sx) : Sx := .bin .o p q
noncomputable def aN (p q : Sx) : Sx := .bin .a p q
noncomputable def nO : Sx := .fls
noncomputable def eitN : Sx := oR nA (tH nA nO)
noncomputable def knN : List Sx := [eitN, tH (tH eitN nO) nO, tH (tH (tH nA nO) nO) nA, tH (tH (tH nA nB) nA) nA, oR (tH nA nB) (tH nB nA), tH (aN nA nB) (oR nC nB), tH (oR nA nB) (oR nB nA),
  tH (tH nA (tH nB nC)) (tH (aN nA nB) nC), tH (tH (oR nA nB) nC) (aN (tH nA nC) (tH nB nC)), tH (tH (aN nA nB) nO) (oR (tH nA nO) (tH nB nO)), tH (tH (tH (tH nA nO) nO) nO) (tH nA nO),
  tH (oR nA (aN nB nC)) (aN (oR nA nB) (oR nA nC)), tH (aN (oR nA nB) (oR nA nC)) (oR nA (aN nB nC)), tH (oR (tH nA nO) nB) (tH nA nB), tH (tH nA nB) (oR (tH nA nO) nB),
  tH (tH (tH nA nO) (oR nB nC)) (oR (tH (tH nA nO) nB) (tH (tH nA nO) nC)), tH nO nA, nA, aN (tH nA nA) nB, tH (tH nA nB) (tH (tH nB nC) (tH nA nC))]
noncomputable def nD : Sx := .nm (Str.ofString "d")
noncomputable def rho (x y z u : Str) (n : Str) : Str := if n == Str.ofString "a" then x else if n == Str.ofString "b" then y else if n == Str.ofString "c" then z else u
theorem rho_in (x y z u : Str) : ∀ t : Sx, inN [x, y, z, u] (ren (rho x y z u) t)
  | .nm n => by
    show rho x y z u n ∈ [x, y, z, u]
    unfold rho
    split
    · simp
    · split
      · simp
      · split <;> simp
  | .fls => trivial
  | .bin w p q => ⟨rho_in x y z u p, rho_in x y z u q⟩
noncomputable def okN (t : Sx) : Bool := decide ((pl t []).length <= 13) && decide ((pl t []).countP isT <= 8) && decide (t.dep <= 6)
theorem knN_ok : knN.all okN = true := by decide +kernel
theorem knN_len : knN.length = 20 := rfl
theorem ren_ok {t : Sx} (x y z u : Str) (h : okN t = true) : Dr (ren (rho x y z u) t) := by
  unfold okN at h
  rw [Bool.and_eq_true, Bool.and_eq_true, decide_eq_true_eq, decide_eq_true_eq, decide_eq_true_eq] at h
  exact ⟨by rw [ren_dep]; exact h.2, ren_bd _ t h.1.1 h.1.2, _, by simp, rho_in x y z u t⟩
theorem kn_ok (x y z u : Str) : ∀ s ∈ knN.map (ren (rho x y z u)), Dr s := fun s hs => by
  refine ob12 (List.mem_map.mp hs) fun t ht er1 => ?_; subst er1
  exact ren_ok x y z u (List.all_eq_true.mp knN_ok t ht)
namespace L11
theorem known_end (cf : CF) (seed cell : Int) (x y z : Str) (o : Option D) : finM (b__law_known_by_17 cf [some (.int seed), some (.int cell), some (enc (.nm x)), some (enc (.nm y)), some (enc (.nm z)), none, none, none, o]) =
    finM (b__law_known_by_0 cf [some (.int seed), some (.int cell), some (enc (.nm x)), some (enc (.nm y)), some (enc (.nm z)), some (enc .fls), some (enc (ren (rho x y z z) eitN)), some (.list ((knN.map (ren (rho x y z z))).map enc)), some (enc (tH (.nm x) nO))]) := by kernel_rfl
theorem known_ok (cf : CF) (seed cell : Int) (hN : ∀ (k : Nat), k <= 10 -> ∃ x : Str, cf (Str.ofString "_law_name_by") [.int seed, .int k] = ret (.str x)) : ∃ s, s__law_known_by cf (.int seed) (.int cell) = ret (enc s) /\ Dr s := by
  refine ob12 (fmod_lit (cell.fdiv 20) 3 3 (by decide) rfl) fun k0 h0 e0 => ?_
  refine ob12 (fmod_lit (cell.fdiv 20 + 1) 3 3 (by decide) rfl) fun k1 h1 e1 => ?_
  refine ob12 (fmod_lit (cell.fdiv 20 + 2) 3 3 (by decide) rfl) fun k2 h2 e2 => ?_
  refine ob11 (hN k0 (by omega)) fun x hx => ?_
  refine ob11 (hN k1 (by omega)) fun y hy => ?_
  refine ob11 (hN k2 (by omega)) fun z hz => ?_
  have tn : ∀ (k : Nat) (x : Str), cf (Str.ofString "_law_name_by") [.int seed, .int k] = ret (.str x) -> t__law_known_by_18 cf [some (.int seed), some (.int cell), none, none, none, none, none, none, none] (.int k) = ret (some (enc (.nm x))) := fun k x h => by
    show turnS (ret true) (tupM (consM (ret (.str (Str.ofString "name"))) (consM (calm (cf (Str.ofString "_law_name_by") [.int seed, .int k])) (ret [])))) = _
    rw [h]; rfl
  have hl : lst0 (consM (binS .Mod (binS .FloorDiv (ret (.int cell)) (ret (.int 20))) (ret (.int 3))) (consM (binS .Mod (binS .Add (binS .FloorDiv (ret (.int cell)) (ret (.int 20))) (ret (.int 1))) (ret (.int 3))) (consM (binS .Mod (binS .Add (binS .FloorDiv (ret (.int cell)) (ret (.int 20))) (ret (.int 2))) (ret (.int 3))) (ret [])))) = ret (.list [.int k0, .int k1, .int k2]) := by
    simp only [binS_ret, div_ints _ 20 (by decide), add_ints, mod_ints _ 3 (by decide), e0, e1, e2, consM_ret]
    rw [lst0_ret _ (by simp)]
  have hc : comp0 (ret (.list [.int k0, .int k1, .int k2])) (t__law_known_by_18 cf [some (.int seed), some (.int cell), none, none, none, none, none, none, none]) = ret (.list [enc (.nm x), enc (.nm y), enc (.nm z)]) := by
    show bnd (bnd (t__law_known_by_18 cf _ (.int k0)) fun a => bnd (bnd (t__law_known_by_18 cf _ (.int k1)) fun b => bnd (bnd (t__law_known_by_18 cf _ (.int k2)) fun c => bnd (ret []) fun ys => ret _) fun ys => ret _) fun ys => ret _) _ = _
    rw [tn k0 x hx, tn k1 y hy, tn k2 z hz]; rfl
  refine ob12 (fmod_lit cell 20 20 (by decide) rfl) fun k hk ek => ?_
  have hkl : k < (knN.map (ren (rho x y z z))).length := by rw [List.length_map, knN_len]; exact hk
  refine mk12 ((knN.map (ren (rho x y z z)))[k]) ?_ (kn_ok _ _ _ _ _ (List.getElem_mem hkl))
  show finM (b__law_known_by_19 cf [some (.int seed), some (.int cell), none, none, none, none, none, none, none]) = _
  unfold b__law_known_by_19
  show finM (seqM (asgT [2, 3, 4] [some (.int seed), some (.int cell), none, none, none, none, none, none, none] (comp0 (lst0 (consM (binS .Mod (binS .FloorDiv (ret (.int cell)) (ret (.int 20))) (ret (.int 3))) (consM (binS .Mod (binS .Add (binS .FloorDiv (ret (.int cell)) (ret (.int 20))) (ret (.int 1))) (ret (.int 3))) (consM (binS .Mod (binS .Add (binS .FloorDiv (ret (.int cell)) (ret (.int 20))) (ret (.int 2))) (ret (.int 3))) (ret []))))) (t__law_known_by_18 cf _))) (b__law_known_by_17 cf)) = _
  rw [hl, hc]
  have ea : asgT [2, 3, 4] [some (.int seed), some (.int cell), none, none, none, none, none, none, none] (ret (.list [enc (.nm x), enc (.nm y), enc (.nm z)])) = ret (.next [some (.int seed), some (.int cell), some (enc (.nm x)), some (enc (.nm y)), some (enc (.nm z)), none, none, none, none]) := rfl
  rw [ea, seqM_next, known_end]
  generalize hq : (knN.map (ren (rho x y z z))) = l at hkl ⊢
  unfold b__law_known_by_0
  simp only [lk0, lkS, binS_ret, mod_ints _ 20 (by decide), subS_ret, ek]
  rw [itemL_at (d := enc l[k]) (by rw [List.getElem?_map, List.getElem?_eq_getElem hkl]; rfl)]
  rfl
end L11
end Mine
end

section
namespace Mine
open PySem
noncomputable def wW : Nat -> W3
  | 0 => .a
  | 1 => .o
  | 2 => .o
  | _ => .t
noncomputable def whN (w : W3) : Nat -> Sx
  | 2 => .bin w nA nB
  | 3 => .bin w nA (.bin w nB nC)
  | _ => .bin w nA (.bin w nB (.bin w nC nD))
noncomputable def bkN (w : W3) : Nat -> Sx
  | 2 => .bin w nB nA
  | 3 => .bin w nC (.bin w nB nA)
  | _ => .bin w nD (.bin w nC (.bin w nB nA))
noncomputable def nmsN : Nat -> List Sx
  | 2 => [nA, nB]
  | 3 => [nA, nB, nC]
  | _ => [nA, nB, nC, nD]
namespace L11
noncomputable def DrS (m : EM D) : Prop := ∀ S : Store, ∃ s S', m S = .ok (enc s) S' /\ Dr s
theorem DrS.of {m : EM D} {s : Sx} (e : m = ret (enc s)) (h : Dr s) : DrS m := fun S => mk22 s S (by rw [e]; rfl) h
noncomputable abbrev sgV (seed cell : Int) (M : Nat) (k : Option D) (nms : D) (at' way : Nat) (l wh li wd bk : Option D) : Sg := [some (.int seed), some (.int cell), some (.int 4), some (.int (M : Nat)), k, some nms, some (.int (at' : Nat)), some (.int (way : Nat)), l, wh, li, wd, bk, none, none]
noncomputable abbrev encR' (x y z u : Str) (t : Sx) : D := enc (ren (rho x y z u) t)
theorem wide_lo (cf : CF) (seed cell : Int) (x y z u : Str) (M at' way : Nat) (hM : M = 2 \/ M = 3 \/ M = 4) (hw : way < 4) :
    finM (b__law_wide_18 cf (sgV seed cell M none (.list ((nmsN M).map (encR' x y z u))) at' way none none none none none)) =
    finM (b__law_wide_2 cf (sgV seed cell M (some (.int ((M - 1 : Nat) : Nat))) (.list ((nmsN M).map (encR' x y z u))) at' way none (some (encR' x y z u (whN (wW way) M))) none (some (.str (wW way).s)) (some (encR' x y z u (bkN (wW way) M))))) := by
  rcases hM with rfl | rfl | rfl
  · apply lt4 way hw <;> kernel_rfl
  · apply lt4 way hw <;> kernel_rfl
  · apply lt4 way hw <;> kernel_rfl
theorem nms_at (x y z u : Str) (M k : Nat) (hM : M = 2 \/ M = 3 \/ M = 4) (hk : k < M) : ∃ t ∈ nmsN M, itemM (.list ((nmsN M).map (encR' x y z u))) (.int (k : Nat)) = ret (encR' x y z u t) := by
  rcases hM with rfl | rfl | rfl
  · apply lt2 k hk
    · exact mk12 nA (by decide) (itemL_at rfl)
    · exact mk12 nB (by decide) (itemL_at rfl)
  · apply lt3 k hk
    · exact mk12 nA (by decide) (itemL_at rfl)
    · exact mk12 nB (by decide) (itemL_at rfl)
    · exact mk12 nC (by decide) (itemL_at rfl)
  · apply lt4 k hk
    · exact mk12 nA (by decide) (itemL_at rfl)
    · exact mk12 nB (by decide) (itemL_at rfl)
    · exact mk12 nC (by decide) (itemL_at rfl)
    · exact mk12 nD (by decide) (itemL_at rfl)
theorem lo_ok : ([2, 3, 4].all fun M => [0, 1, 2, 3].all fun way => okN (tH (whN (wW way) M) (bkN (wW way) M)) && (nmsN M).all fun t => okN (tH (whN (wW way) M) t) && okN (tH t (whN (wW way) M))) = true := by decide +kernel
theorem lo_at {M way : Nat} (hM : M = 2 \/ M = 3 \/ M = 4) (hw : way < 4) : okN (tH (whN (wW way) M) (bkN (wW way) M)) = true /\ ∀ t ∈ nmsN M, okN (tH (whN (wW way) M) t) = true /\ okN (tH t (whN (wW way) M)) = true := by
  have h1 := List.all_eq_true.mp lo_ok M (by rcases hM with rfl | rfl | rfl <;> decide)
  have h2 := List.all_eq_true.mp h1 way (by match way, hw with
    | 0, _ => decide
    | 1, _ => decide
    | 2, _ => decide
    | 3, _ => decide)
  rw [Bool.and_eq_true] at h2
  exact ⟨h2.1, fun t ht => by have := List.all_eq_true.mp h2.2 t ht; rwa [Bool.and_eq_true] at this⟩
theorem lt6 (M : Nat) (hM : M = 2 \/ M = 3 \/ M = 4) : cmpM .Lt (.int (M : Nat)) (.int 6) = ret true := by rcases hM with rfl | rfl | rfl <;> rfl
theorem wide_low (cf : CF) (seed cell : Int) (x y z u : Str) (M at' way : Nat) (hM : M = 2 \/ M = 3 \/ M = 4) (hw : way < 4) (ha : at' < M) :
    DrS (finM (b__law_wide_18 cf (sgV seed cell M none (.list ((nmsN M).map (encR' x y z u))) at' way none none none none none))) := by
  rw [wide_lo cf seed cell x y z u M at' way hM hw]
  refine ob02 (lo_at hM hw) fun l1 l2 => ?_
  refine ob12 (nms_at x y z u M at' hM ha) fun t ht et => ?_
  refine ob12 (fmod_lit (cell.fdiv 294) 2 2 (by decide) rfl) fun b hb eb => ?_
  have other : finM (b__law_wide_0 cf (sgV seed cell M (some (.int ((M - 1 : Nat) : Nat))) (.list ((nmsN M).map (encR' x y z u))) at' way none (some (encR' x y z u (whN (wW way) M))) none (some (.str (wW way).s)) (some (encR' x y z u (bkN (wW way) M))))) = ret (encR' x y z u (if b = 0 then tH (whN (wW way) M) t else tH t (whN (wW way) M))) := by
    generalize hwh : whN (wW way) M = wh
    unfold b__law_wide_0
    simp only [lk0, lkS, subS_ret, et, binS_ret, div_ints _ 294 (by decide), mod_ints _ 2 (by decide), eb, consM_ret]
    rw [tupM_ret _ (by simp), tupM_ret _ (by simp)]
    simp only [consM_ret]
    rw [lst0_ret _ (by simp), subS_ret]
    apply lt2 b hb
    · rw [itemL_at (k := 0) rfl]; rfl
    · rw [itemL_at (k := 1) rfl]; rfl
  have fin : DrS (finM (b__law_wide_0 cf (sgV seed cell M (some (.int ((M - 1 : Nat) : Nat))) (.list ((nmsN M).map (encR' x y z u))) at' way none (some (encR' x y z u (whN (wW way) M))) none (some (.str (wW way).s)) (some (encR' x y z u (bkN (wW way) M)))))) := by
    refine DrS.of other ?_
    split
    · exact ren_ok x y z u (l2 t ht).1
    · exact ren_ok x y z u (l2 t ht).2
  unfold b__law_wide_2
  simp only [lk0, lkS, cmpS_ret, lt6 M hM, andM_t]
  revert fin l1
  apply lt4 way hw
  · exact fun _ fin => fin
  · exact fun _ fin => fin
  · exact fun l1 _ => DrS.of rfl (ren_ok x y z u l1)
  · exact fun _ fin => fin
end L11
end Mine
end

section
namespace Mine
open PySem
noncomputable def lkN : Nat -> List Sx
  | 2 => [tH nA nB]
  | 3 => [tH nA nB, tH nB nC]
  | _ => [tH nA nB, tH nB nC, tH nC nD]
namespace L11
theorem hi_start (cf : CF) (seed cell : Int) (x y z u : Str) (M at' way : Nat) (hM : M = 2 \/ M = 3 \/ M = 4) (hw : way = 4 \/ way = 5) (S : Store) :
    finM (b__law_wide_18 cf (sgV seed cell M none (.list ((nmsN M).map (encR' x y z u))) at' way none none none none none)) S =
    finM (seqM (b__law_wide_14 cf (sgV seed cell M none (.list ((nmsN M).map (encR' x y z u))) at' way (some (.loc S.length)) none none none none)) (b__law_wide_8 cf)) (S ++ [.list ((lkN M).map (encR' x y z u))]) := by
  rcases hM with rfl | rfl | rfl <;> rcases hw with rfl | rfl <;> kernel_rfl
theorem sli_loc {S : Store} {n : Nat} {ds : List D} (h : S[n]? = some (.list ds)) : sli0 (.loc n) (.int 1) .none S = .ok (.list (cut (some 1) none ds)) S := by
  have e : listOf S (.loc n) = some ds := by unfold listOf; dsimp only; rw [h]
  show (match listOf S (.loc n) with
    | some ds => mkList cfg0 pos0 (cut (some 1) none ds) S
    | none => .stuck) = _
  rw [e]; rfl
theorem hi_end2 (cf : CF) (seed cell : Int) (x y z u : Str) (at' way n : Nat) (l : D) (S : Store) (hS : S[n]? = some (.list [l])) (kk : Sg -> EM Fl) :
    finM (seqM (b__law_wide_12 cf (sgV seed cell 2 none (.list ((nmsN 2).map (encR' x y z u))) at' way (some (.loc n)) none none none none)) kk) S = .ok (.tuple [.str (Str.ofString "then"), l, encR' x y z u (tH nA nB)]) S := by
  unfold b__law_wide_12
  rw [fin_seq]
  refine (fin_put (d := l) (S1 := S) (item_loc (k := 0) hS rfl)).trans ?_
  unfold b__law_wide_11
  rw [fin_seq]
  refine (go_st (σ := sgV seed cell 2 none (.list ((nmsN 2).map (encR' x y z u))) at' way (some (.loc n)) (some l) none none none) (S1 := S) ?_).trans ?_
  · show bnd (sli0 (.loc n) (.int 1) .none) (fun it => bnd (optM (itemsOf it)) fun ds => forL _ ds _) S = _
    rw [bnd_st (sli_loc hS)]; rfl
  · rfl
theorem hi_end3 (cf : CF) (seed cell : Int) (x y z u : Str) (at' way n : Nat) (l r : D) (S : Store) (hS : S[n]? = some (.list [l, r])) (kk : Sg -> EM Fl) :
    finM (seqM (b__law_wide_12 cf (sgV seed cell 3 none (.list ((nmsN 3).map (encR' x y z u))) at' way (some (.loc n)) none none none none)) kk) S = .ok (.tuple [.str (Str.ofString "then"), .tuple [.str (Str.ofString "and"), l, r], encR' x y z u (tH nA nC)]) S := by
  unfold b__law_wide_12
  rw [fin_seq]
  refine (fin_put (d := l) (S1 := S) (item_loc (k := 0) hS rfl)).trans ?_
  unfold b__law_wide_11
  rw [fin_seq]
  refine (go_st (σ := sgV seed cell 3 none (.list ((nmsN 3).map (encR' x y z u))) at' way (some (.loc n)) (some (.tuple [.str (Str.ofString "and"), l, r])) (some r) none none) (S1 := S) ?_).trans ?_
  · show bnd (sli0 (.loc n) (.int 1) .none) (fun it => bnd (optM (itemsOf it)) fun ds => forL _ ds _) S = _
    rw [bnd_st (sli_loc hS)]; rfl
  · rfl
theorem hi_end4 (cf : CF) (seed cell : Int) (x y z u : Str) (at' way n : Nat) (l r q : D) (S : Store) (hS : S[n]? = some (.list [l, r, q])) (kk : Sg -> EM Fl) :
    finM (seqM (b__law_wide_12 cf (sgV seed cell 4 none (.list ((nmsN 4).map (encR' x y z u))) at' way (some (.loc n)) none none none none)) kk) S = .ok (.tuple [.str (Str.ofString "then"), .tuple [.str (Str.ofString "and"), .tuple [.str (Str.ofString "and"), l, r], q], encR' x y z u (tH nA nD)]) S := by
  unfold b__law_wide_12
  rw [fin_seq]
  refine (fin_put (d := l) (S1 := S) (item_loc (k := 0) hS rfl)).trans ?_
  unfold b__law_wide_11
  rw [fin_seq]
  refine (go_st (σ := sgV seed cell 4 none (.list ((nmsN 4).map (encR' x y z u))) at' way (some (.loc n)) (some (.tuple [.str (Str.ofString "and"), .tuple [.str (Str.ofString "and"), l, r], q])) (some q) none none) (S1 := S) ?_).trans ?_
  · show bnd (sli0 (.loc n) (.int 1) .none) (fun it => bnd (optM (itemsOf it)) fun ds => forL _ ds _) S = _
    rw [bnd_st (sli_loc hS)]; rfl
  · rfl
theorem set_loc {S : Store} {n k : Nat} {ds : List D} {d : D} (h : S[n]? = some (.list ds)) (hk : k < ds.length) : setItemM (.loc n) (.int (k : Nat)) d S = .ok () (S.set n (.list (ds.set k d))) := by
  unfold setItemM
  rw [tabOf_list h]
  show (match S[n]? with
    | some (.list ds) => if decide (0 <= ((k : Nat) : Int)) && decide (((k : Nat) : Int) < (ds.length : Int)) then Out.ok () (setS S n (.list (ds.set ((k : Nat) : Int).toNat d))) else .stuck
    | _ => .stuck) = _
  rw [h]
  dsimp only
  rw [if_pos (by simp; omega)]
  rfl
noncomputable def hiN : Nat -> List Sx
  | 2 => [tH (tH nA nB) (tH nA nB), tH nA (tH nA nB), tH nB (tH nA nB)]
  | 3 => tH (aN (tH nA nB) (tH nB nC)) (tH nA nC) :: ([nA, nB, nC].map fun t => tH (aN t (tH nB nC)) (tH nA nC)) ++ ([nA, nB, nC].map fun t => tH (aN (tH nA nB) t) (tH nA nC))
  | _ => tH (aN (aN (tH nA nB) (tH nB nC)) (tH nC nD)) (tH nA nD) :: ([nA, nD].map fun t => tH (aN (aN t (tH nB nC)) (tH nC nD)) (tH nA nD)) ++ [tH (aN (aN (tH nA nB) nB) (tH nC nD)) (tH nA nD), tH (aN (aN (tH nA nB) (tH nB nC)) nC) (tH nA nD)]
theorem hi_ok : ([2, 3, 4].all fun M => (hiN M).all okN) = true := by decide +kernel
theorem hi_dr {M : Nat} (hM : M = 2 \/ M = 3 \/ M = 4) (x y z u : Str) {t : Sx} (ht : t ∈ hiN M) : Dr (ren (rho x y z u) t) := by
  have h1 := List.all_eq_true.mp hi_ok M (by rcases hM with rfl | rfl | rfl <;> decide)
  exact ren_ok x y z u (List.all_eq_true.mp h1 t ht)
theorem wide_high (cf : CF) (seed cell : Int) (x y z u : Str) (M at' way : Nat) (hM : M = 2 \/ M = 3 \/ M = 4) (hw : way = 4 \/ way = 5) (ha : at' < M) :
    DrS (finM (b__law_wide_18 cf (sgV seed cell M none (.list ((nmsN M).map (encR' x y z u))) at' way none none none none none))) := by
  intro S
  rw [hi_start cf seed cell x y z u M at' way hM hw S]
  have hS : (S ++ [SObj.list ((lkN M).map (encR' x y z u))])[S.length]? = some (.list ((lkN M).map (encR' x y z u))) := by simp
  rcases hw with rfl | rfl
  · have e0 : ∀ (k : Sg -> EM Fl), finM (seqM (b__law_wide_14 cf (sgV seed cell M none (.list ((nmsN M).map (encR' x y z u))) at' 4 (some (.loc S.length)) none none none none)) k) (S ++ [SObj.list ((lkN M).map (encR' x y z u))]) = finM (seqM (b__law_wide_12 cf (sgV seed cell M none (.list ((nmsN M).map (encR' x y z u))) at' 4 (some (.loc S.length)) none none none none)) k) (S ++ [SObj.list ((lkN M).map (encR' x y z u))]) := fun k => rfl
    rw [e0]
    rcases hM with rfl | rfl | rfl
    · exact mk22 (ren (rho x y z u) (tH (tH nA nB) (tH nA nB))) _ (hi_end2 cf seed cell x y z u at' 4 S.length _ _ hS _) (hi_dr (.inl rfl) _ _ _ _ (by decide))
    · exact mk22 (ren (rho x y z u) (tH (aN (tH nA nB) (tH nB nC)) (tH nA nC))) _ (hi_end3 cf seed cell x y z u at' 4 S.length _ _ _ hS _) (hi_dr (.inr (.inl rfl)) _ _ _ _ (by decide))
    · exact mk22 (ren (rho x y z u) (tH (aN (aN (tH nA nB) (tH nB nC)) (tH nC nD)) (tH nA nD))) _ (hi_end4 cf seed cell x y z u at' 4 S.length _ _ _ _ hS _) (hi_dr (.inr (.inr rfl)) _ _ _ _ (by decide))
  · have go : ∀ (j : Nat) (d : D) (kk : Sg -> EM Fl), j < ((lkN M).map (encR' x y z u)).length -> bnd (subS (lk (sgV seed cell M none (.list ((nmsN M).map (encR' x y z u))) at' 5 (some (.loc S.length)) none none none none) 5) (binS .Mod (lk (sgV seed cell M none (.list ((nmsN M).map (encR' x y z u))) at' 5 (some (.loc S.length)) none none none none) 6) (lk (sgV seed cell M none (.list ((nmsN M).map (encR' x y z u))) at' 5 (some (.loc S.length)) none none none none) 3))) (fun d => bnd (lk (sgV seed cell M none (.list ((nmsN M).map (encR' x y z u))) at' 5 (some (.loc S.length)) none none none none) 8) fun a => bnd (binS .Mod (lk (sgV seed cell M none (.list ((nmsN M).map (encR' x y z u))) at' 5 (some (.loc S.length)) none none none none) 6) (binS .Sub (lk (sgV seed cell M none (.list ((nmsN M).map (encR' x y z u))) at' 5 (some (.loc S.length)) none none none none) 3) (ret (.int 1)))) fun k => bnd (setItemM a k d) fun _ => ret (Fl.next (sgV seed cell M none (.list ((nmsN M).map (encR' x y z u))) at' 5 (some (.loc S.length)) none none none none))) = bnd (setItemM (.loc S.length) (.int (j : Nat)) d) (fun _ => ret (Fl.next (sgV seed cell M none (.list ((nmsN M).map (encR' x y z u))) at' 5 (some (.loc S.length)) none none none none))) ->
        finM (seqM (b__law_wide_14 cf (sgV seed cell M none (.list ((nmsN M).map (encR' x y z u))) at' 5 (some (.loc S.length)) none none none none)) kk) (S ++ [SObj.list ((lkN M).map (encR' x y z u))]) = finM (seqM (b__law_wide_12 cf (sgV seed cell M none (.list ((nmsN M).map (encR' x y z u))) at' 5 (some (.loc S.length)) none none none none)) kk) ((S ++ [SObj.list ((lkN M).map (encR' x y z u))]).set S.length (.list (((lkN M).map (encR' x y z u)).set j d))) := fun j d kk hj e => by
      show finM (seqM (seqM (b__law_wide_13 cf (sgV seed cell M none (.list ((nmsN M).map (encR' x y z u))) at' 5 (some (.loc S.length)) none none none none)) (b__law_wide_12 cf)) kk) _ = _
      rw [fin_seq]
      unfold b__law_wide_13
      rw [e, fin_seq]
      exact set_go (set_loc hS hj)
    have hS2 : ∀ ds, ((S ++ [SObj.list ((lkN M).map (encR' x y z u))]).set S.length (.list ds))[S.length]? = some (.list ds) := fun ds => set_at hS
    rcases hM with rfl | rfl | rfl
    · revert go
      apply lt2 at' ha
      · intro go; rw [go 0 (encR' x y z u nA) _ (by rw [List.length_map]; decide) rfl]; exact mk22 (ren (rho x y z u) (tH nA (tH nA nB))) _ (hi_end2 cf seed cell x y z u 0 5 S.length _ _ (hS2 _) _) (hi_dr (.inl rfl) _ _ _ _ (by decide))
      · intro go; rw [go 0 (encR' x y z u nB) _ (by rw [List.length_map]; decide) rfl]; exact mk22 (ren (rho x y z u) (tH nB (tH nA nB))) _ (hi_end2 cf seed cell x y z u 1 5 S.length _ _ (hS2 _) _) (hi_dr (.inl rfl) _ _ _ _ (by decide))
    · revert go
      apply lt3 at' ha
      · intro go; rw [go 0 (encR' x y z u nA) _ (by rw [List.length_map]; decide) rfl]; exact mk22 (ren (rho x y z u) (tH (aN nA (tH nB nC)) (tH nA nC))) _ (hi_end3 cf seed cell x y z u 0 5 S.length _ _ _ (hS2 _) _) (hi_dr (.inr (.inl rfl)) _ _ _ _ (by decide))
      · intro go; rw [go 1 (encR' x y z u nB) _ (by rw [List.length_map]; decide) rfl]; exact mk22 (ren (rho x y z u) (tH (aN (tH nA nB) nB) (tH nA nC))) _ (hi_end3 cf seed cell x y z u 1 5 S.length _ _ _ (hS2 _) _) (hi_dr (.inr (.inl rfl)) _ _ _ _ (by decide))
      · intro go; rw [go 0 (encR' x y z u nC) _ (by rw [List.length_map]; decide) rfl]; exact mk22 (ren (rho x y z u) (tH (aN nC (tH nB nC)) (tH nA nC))) _ (hi_end3 cf seed cell x y z u 2 5 S.length _ _ _ (hS2 _) _) (hi_dr (.inr (.inl rfl)) _ _ _ _ (by decide))
    · revert go
      apply lt4 at' ha
      · intro go; rw [go 0 (encR' x y z u nA) _ (by rw [List.length_map]; decide) rfl]; exact mk22 (ren (rho x y z u) (tH (aN (aN nA (tH nB nC)) (tH nC nD)) (tH nA nD))) _ (hi_end4 cf seed cell x y z u 0 5 S.length _ _ _ _ (hS2 _) _) (hi_dr (.inr (.inr rfl)) _ _ _ _ (by decide))
      · intro go; rw [go 1 (encR' x y z u nB) _ (by rw [List.length_map]; decide) rfl]; exact mk22 (ren (rho x y z u) (tH (aN (aN (tH nA nB) nB) (tH nC nD)) (tH nA nD))) _ (hi_end4 cf seed cell x y z u 1 5 S.length _ _ _ _ (hS2 _) _) (hi_dr (.inr (.inr rfl)) _ _ _ _ (by decide))
      · intro go; rw [go 2 (encR' x y z u nC) _ (by rw [List.length_map]; decide) rfl]; exact mk22 (ren (rho x y z u) (tH (aN (aN (tH nA nB) (tH nB nC)) nC) (tH nA nD))) _ (hi_end4 cf seed cell x y z u 2 5 S.length _ _ _ _ (hS2 _) _) (hi_dr (.inr (.inr rfl)) _ _ _ _ (by decide))
      · intro go; rw [go 0 (encR' x y z u nD) _ (by rw [List.length_map]; decide) rfl]; exact mk22 (ren (rho x y z u) (tH (aN (aN nD (tH nB nC)) (tH nC nD)) (tH nA nD))) _ (hi_end4 cf seed cell x y z u 3 5 S.length _ _ _ _ (hS2 _) _) (hi_dr (.inr (.inr rfl)) _ _ _ _ (by decide))
end L11
end Mine
end

section
namespace Mine
open PySem
namespace L11
noncomputable abbrev HN (cf : CF) (seed : Int) : Prop := ∀ (k : Nat), k <= 10 -> ∃ x : Str, cf (Str.ofString "_law_name_by") [.int seed, .int k] = ret (.str x)
theorem wide_names (cf : CF) (seed cell : Int) (M : Nat) (hM : M = 2 \/ M = 3 \/ M = 4) (hN : HN cf (seed.fmod 1664)) : ∃ x y z u, comp0 (ret (.range 0 (M : Int))) (t__law_wide_21 cf [some (.int seed), some (.int cell), some (.int 4), some (.int (M : Nat)), none, none, none, none, none, none, none, none, none, none, none]) = ret (.list ((nmsN M).map (encR' x y z u))) := by
  refine ob11 (hN 0 (by omega)) fun x hx => ?_
  refine ob11 (hN 1 (by omega)) fun y hy => ?_
  refine ob11 (hN 2 (by omega)) fun z hz => ?_
  refine ob11 (hN 3 (by omega)) fun u hu => ?_
  have tn : ∀ (k : Nat) (x : Str), cf (Str.ofString "_law_name_by") [.int (seed.fmod 1664), .int k] = ret (.str x) -> t__law_wide_21 cf [some (.int seed), some (.int cell), some (.int 4), some (.int (M : Nat)), none, none, none, none, none, none, none, none, none, none, none] (.int k) = ret (some (enc (.nm x))) := fun k x h => by
    show turnS (ret true) (tupM (consM (ret (.str (Str.ofString "name"))) (consM (bnd (consM (bin0 .Mod (.int seed) (.int 1664)) (consM (ret (.int k)) (ret []))) fun ds => calm (cf (Str.ofString "_law_name_by") ds)) (ret [])))) = _
    rw [mod_ints _ 1664 (by decide)]
    show turnS (ret true) (tupM (consM (ret (.str (Str.ofString "name"))) (consM (calm (cf (Str.ofString "_law_name_by") [.int (seed.fmod 1664), .int k])) (ret [])))) = _
    rw [h]; rfl
  refine mk41 x y z u ?_
  rcases hM with rfl | rfl | rfl
  · show bnd (bnd (t__law_wide_21 cf _ (.int (0 : Nat))) fun a => bnd (bnd (t__law_wide_21 cf _ (.int (1 : Nat))) fun b => bnd (ret []) fun ys => ret _) fun ys => ret _) _ = _
    rw [tn 0 x hx, tn 1 y hy]; rfl
  · show bnd (bnd (t__law_wide_21 cf _ (.int (0 : Nat))) fun a => bnd (bnd (t__law_wide_21 cf _ (.int (1 : Nat))) fun b => bnd (bnd (t__law_wide_21 cf _ (.int (2 : Nat))) fun c => bnd (ret []) fun ys => ret _) fun ys => ret _) fun ys => ret _) _ = _
    rw [tn 0 x hx, tn 1 y hy, tn 2 z hz]; rfl
  · show bnd (bnd (t__law_wide_21 cf _ (.int (0 : Nat))) fun a => bnd (bnd (t__law_wide_21 cf _ (.int (1 : Nat))) fun b => bnd (bnd (t__law_wide_21 cf _ (.int (2 : Nat))) fun c => bnd (bnd (t__law_wide_21 cf _ (.int (3 : Nat))) fun e => bnd (ret []) fun ys => ret _) fun ys => ret _) fun ys => ret _) fun ys => ret _) _ = _
    rw [tn 0 x hx, tn 1 y hy, tn 2 z hz, tn 3 u hu]; rfl
theorem wide_ok (cf : CF) (seed cell : Int) (hN : HN cf (seed.fmod 1664)) : DrS (s__law_wide cf (.int seed) (.int cell) (.int 4)) := by
  refine ob12 (fmod_lit (cell.fdiv 6) 3 3 (by decide) rfl) fun m hm em => ?_
  have hM : 2 + m = 2 \/ 2 + m = 3 \/ 2 + m = 4 := by omega
  refine ob41 (wide_names cf seed cell (2 + m) hM hN) fun x y z u en => ?_
  refine ob12 (fmod_nat (cell.fdiv 42) (n := 2 + m) (by omega)) fun a ha ea => ?_
  refine ob12 (fmod_lit cell 6 6 (by decide) rfl) fun w hw ew => ?_
  have e0 : s__law_wide cf (.int seed) (.int cell) (.int 4) = finM (b__law_wide_18 cf (sgV seed cell (2 + m) none (.list ((nmsN (2 + m)).map (encR' x y z u))) a w none none none none none)) := by
    show finM (b__law_wide_23 cf [some (.int seed), some (.int cell), some (.int 4), none, none, none, none, none, none, none, none, none, none, none, none]) = _
    unfold b__law_wide_23
    have e1 : binS .Add (ret (.int 2)) (binS .Mod (binS .FloorDiv (ret (.int cell)) (ret (.int 6))) (binS .Sub (ret (.int 4)) (ret (.int 1)))) = ret (.int ((2 + m : Nat) : Int)) := by
      show binS .Add (ret (.int 2)) (binS .Mod (bin0 .FloorDiv (.int cell) (.int 6)) (ret (.int 3))) = _
      rw [div_ints _ 6 (by decide), binS_ret, mod_ints _ 3 (by decide), em, binS_ret, add_ints]
      have : (2 : Int) + ((m : Nat) : Int) = ((2 + m : Nat) : Int) := by omega
      rw [this]
    show finM (seqM (bnd (binS .Add (ret (.int 2)) (binS .Mod (binS .FloorDiv (ret (.int cell)) (ret (.int 6))) (binS .Sub (ret (.int 4)) (ret (.int 1))))) fun d => ret (.next (put [some (.int seed), some (.int cell), some (.int 4), none, none, none, none, none, none, none, none, none, none, none, none] 3 d))) (b__law_wide_22 cf)) = _
    rw [e1, bnd_ret, seqM_next]
    unfold b__law_wide_22
    show finM (seqM (bnd (comp0 (ret (.range 0 ((2 + m : Nat) : Int))) (t__law_wide_21 cf [some (.int seed), some (.int cell), some (.int 4), some (.int ((2 + m : Nat) : Nat)), none, none, none, none, none, none, none, none, none, none, none])) fun d => ret (.next (put [some (.int seed), some (.int cell), some (.int 4), some (.int ((2 + m : Nat) : Nat)), none, none, none, none, none, none, none, none, none, none, none] 5 d))) (b__law_wide_20 cf)) = _
    rw [en, bnd_ret, seqM_next]
    unfold b__law_wide_20
    simp only [put0, putS, lk0, lkS, binS_ret, div_ints _ 42 (by decide)]
    rw [mod_ints _ _ (by omega), ea, bnd_ret, seqM_next]
    unfold b__law_wide_19
    simp only [put0, putS, lk0, lkS, binS_ret, mod_ints _ 6 (by decide), ew]
    rw [bnd_ret, seqM_next]
  rw [e0]
  by_cases h4 : w < 4
  · exact wide_low cf seed cell x y z u (2 + m) a w hM h4 ha
  · exact wide_high cf seed cell x y z u (2 + m) a w hM (by omega) ha
structure CfW (cf : CF) : Prop where
  cell : ∀ (xs : List Int) (k : Nat), ∃ i : Int, cf (Str.ofString "_law_cell_at") [.list (xs.map D.int), .int k] = ret (.int i)
  wide : ∀ seed cell, DrS (cf (Str.ofString "_law_wide") [.int seed, .int cell, .int 4])
  known : ∀ seed cell, DrS (cf (Str.ofString "_law_known_by") [.int seed, .int cell])
  stat : ∀ seed (cs : List Int), cs.length <= 6 -> DrS (cf (Str.ofString "_law_statement_by") [.list (cs.map D.int), .int seed])
theorem drawn_ok {cf : Str -> List D -> EM D} (C : CfW cf) (xs : List Int) (f : Nat) : DrS (s__law_drawn cf (.list (xs.map D.int)) (.int (f : Nat)) (.int 6) (.int 4)) := by
  refine ob11 (C.cell xs 0) fun seed e1 => ?_
  refine ob11 (C.cell xs f) fun cell e2 => ?_
  intro S
  have e1' : cf (Str.ofString "_law_cell_at") [.list (xs.map D.int), .int 0] = ret (.int seed) := e1
  show ∃ s S', finM (b__law_drawn_6 cf [some (.list (xs.map D.int)), some (.int (f : Nat)), some (.int 6), some (.int 4), none, none, none, none, none, none]) S = _ /\ _
  unfold b__law_drawn_6
  simp only [lk0, lkS, consM_ret, bnd_ret, e1', seqM_next, put0, putS]
  unfold b__law_drawn_5
  simp only [lk0, lkS, consM_ret, bnd_ret, e2, seqM_next, put0, putS]
  unfold b__law_drawn_4
  simp only [lk0, lkS, binS_ret, mod_ints _ 8 (by decide), cmpS_ret, Mine.eq_ints]
  cases h8 : (cell.fmod 8 == 5) with
  | true =>
    refine ob22 (C.wide seed (cell.fdiv 8) S) fun s S' es hs => ?_
    refine mk22 s S' ?_ hs
    rw [ifM_true]
    unfold b__law_drawn_3
    simp only [lk0, lkS, binS_ret, div_ints _ 8 (by decide), consM_ret, bnd_ret]
    rw [fin_seq]
    exact fin_ret_st es
  | false =>
    rw [ifM_false]
    show ∃ s S', finM (b__law_drawn_2 cf _) S = _ /\ _
    unfold b__law_drawn_2
    simp only [lk0, lkS, binS_ret, mod_ints _ 2 (by decide), cmpS_ret, Mine.eq_ints]
    cases h2 : (cell.fmod 2 == 1) with
    | true =>
      refine ob22 (C.known seed (cell.fdiv 2) S) fun s S' es hs => ?_
      refine mk22 s S' ?_ hs
      rw [ifM_true]
      unfold b__law_drawn_1
      simp only [lk0, lkS, binS_ret, div_ints _ 2 (by decide), consM_ret, bnd_ret]
      rw [fin_seq]
      exact fin_ret_st es
    | false =>
      rw [ifM_false]
      show ∃ s S', finM (b__law_drawn_0 cf _) S = _ /\ _
      have hcut : ∃ cs : List Int, cs.length <= 6 /\ cut (some ((f : Int) + 1)) (some ((f : Int) + 1 + 6)) (xs.map D.int) = cs.map D.int := by
        refine mk12 (cut (some ((f : Int) + 1)) (some ((f : Int) + 1 + 6)) xs) ?_ ?_
        · unfold cut
          rw [List.length_take]
          have : clip (some ((f : Int) + 1 + 6)) xs.length xs.length - clip (some ((f : Int) + 1)) 0 xs.length <= 6 := by
            unfold clip
            dsimp only
            split <;> split <;> omega
          omega
        · unfold cut
          rw [List.length_map, List.map_take, List.map_drop]
      refine ob12 hcut fun cs hl ec => ?_; clear hcut
      refine ob22 (C.stat seed cs hl S) fun s S' es hs => ?_
      refine mk22 s S' ?_ hs
      unfold b__law_drawn_0
      have sl2 : ∀ (a b : Int) (ds : List D), sli0 (.list ds) (.int a) (.int b) = ret (.list (cut (some a) (some b) ds)) := fun _ _ _ => rfl
      simp only [lk0, lkS, binS_ret, add_ints, sliS_ret, sl2, ec, consM_ret, bnd_ret]
      exact fin_ret_st es
end L11
end Mine
end

section
namespace Mine
open PySem
noncomputable def tv (f : Str -> Bool) : Sx -> Bool
  | .nm x => f x
  | .fls => false
  | .bin .a p q => tv f p && tv f q
  | .bin .o p q => tv f p || tv f q
  | .bin .t p q => !tv f p || tv f q
noncomputable def subs : Sx -> List Sx
  | .bin w p q => .bin w p q :: (subs p ++ subs q)
  | x => [x]
theorem subs_self (p : Sx) : p ∈ subs p := by
  cases p with
  | bin w p q => exact List.mem_cons_self ..
  | _ => exact List.mem_singleton.mpr rfl
theorem subs_cl : ∀ p : Sx, SubCl (subs p)
  | .nm x, w, a, b, h => by
    have : Sx.bin w a b = .nm x := List.mem_singleton.mp h
    cases this
  | .fls, w, a, b, h => by
    have : Sx.bin w a b = .fls := List.mem_singleton.mp h
    cases this
  | .bin v p q, w, a, b, h => by
    have up : ∀ x ∈ subs p, x ∈ subs (.bin v p q) := fun x hx => List.mem_cons_of_mem _ (List.mem_append_left _ hx)
    have uq : ∀ x ∈ subs q, x ∈ subs (.bin v p q) := fun x hx => List.mem_cons_of_mem _ (List.mem_append_right _ hx)
    rcases List.mem_cons.mp h with e | e
    · injection e with e1 e2 e3
      rw [e2, e3]; exact ⟨up _ (subs_self p), uq _ (subs_self q)⟩
    · rcases List.mem_append.mp e with e | e
      · have := subs_cl p w a b e; exact ⟨up _ this.1, up _ this.2⟩
      · have := subs_cl q w a b e; exact ⟨uq _ this.1, uq _ this.2⟩
noncomputable def oneW (f : Str -> Bool) : Kr where
  W := Unit
  le _ _ := True
  refl _ := trivial
  trans _ _ := trivial
  v _ x := f x = true
  mono _ h := h
theorem oneW_is (f : Str -> Bool) : ∀ (p : Sx) (w : (oneW f).W), (oneW f).holds w p ↔ tv f p = true
  | .nm _, _ => Iff.rfl
  | .fls, _ => ⟨fun h => h.elim, fun h => by cases h⟩
  | .bin .a p q, w => by
    show (_ /\ _) ↔ (tv f p && tv f q) = true
    rw [oneW_is f p w, oneW_is f q w, Bool.and_eq_true]
  | .bin .o p q, w => by
    show (_ \/ _) ↔ (tv f p || tv f q) = true
    rw [oneW_is f p w, oneW_is f q w, Bool.or_eq_true]
  | .bin .t p q, w => by
    show (∀ u, True -> (oneW f).holds u p -> (oneW f).holds u q) ↔ (!tv f p || tv f q) = true
    constructor
    · intro h
      have := h w trivial
      rw [oneW_is f p w, oneW_is f q w] at this
      cases hp : tv f p with
      | false => rfl
      | true => rw [this hp]; rfl
    · intro h u _ g
      rw [oneW_is f p u] at g
      rw [oneW_is f q u]
      rw [g] at h
      simpa using h
theorem vd_tv {p : Sx} (h : Vd p) (f : Str -> Bool) : tv f p = true := (oneW_is f p ()).mp (h (oneW f) ())
noncomputable def neg (p : Sx) : Sx := .bin .t p .fls
theorem vd_neg {p : Sx} : Vd (neg p) ↔ ∀ f, tv f p = false := by
  constructor
  · intro h f
    have := vd_tv h f
    have e : (!tv f p || false) = true := this
    simpa using e
  · intro h
    have hU := subs_cl (neg p)
    have hs := subs_self (neg p)
    generalize hUU : subs (neg p) = U at hU hs
    refine ob02 (hU _ _ _ hs) fun hp hf => ?_
    rw [<- der_iff hU hs]
    refine Classical.byContradiction fun hn => ?_
    have hd : ¬ Der U [p] .fls := fun d => hn (.suppose d hs)
    have gn := fill_not Sx.fls U [p] hd
    have gi := fill_in (U := U) Sx.fls U [p]
    have gs := fill_sub (U := U) Sx.fls U [p]
    have gu := fill_U Sx.fls U [p] (fun _ q => q) (fun x hx => by rw [List.mem_singleton.mp hx]; exact hp)
    generalize fillUp U Sx.fls U [p] = D at gn gi gs gu
    have cl : ∀ x ∈ U, Der U D x -> x ∈ D := fun x hx d => by
      rcases gi x hx with q | q
      · exact q
      · exact absurd (d.cut q) gn
    have no : ∀ x ∈ U, x ∉ D -> Der U (x :: D) .fls := fun x hx q => (gi x hx).resolve_left q
    have is : ∀ x : Sx, x ∈ U -> (x ∈ D ↔ tv (fun s => decide (Sx.nm s ∈ D)) x = true) := by
      intro x
      induction x with
      | nm s => intro _; show _ ↔ decide _ = true; rw [decide_eq_true_eq]
      | fls => intro _; exact ⟨fun q => absurd (.ax q) gn, fun q => by cases q⟩
      | bin v a b ia ib =>
        intro hx
        refine ob02 (hU _ _ _ hx) fun ua ub => ?_
        have ia := ia ua
        have ib := ib ub
        cases v with
        | a =>
          show _ ↔ (tv _ a && tv _ b) = true
          rw [Bool.and_eq_true, <- ia, <- ib]
          exact ⟨fun q => ⟨cl _ ua (.left (.ax q)), cl _ ub (.right (.ax q))⟩, fun q => cl _ hx (.both (.ax q.1) (.ax q.2) hx)⟩
        | o =>
          show _ ↔ (tv _ a || tv _ b) = true
          rw [Bool.or_eq_true, <- ia, <- ib]
          refine ⟨fun q => ?_, fun q => q.elim (fun q => cl _ hx (.one (.ax q) hx)) fun q => cl _ hx (.other (.ax q) hx)⟩
          refine Classical.byContradiction fun z => ?_
          rw [not_or] at z
          exact gn (.cases (.ax q) (no _ ua z.1) (no _ ub z.2))
        | t =>
          show _ ↔ (!tv _ a || tv _ b) = true
          constructor
          · intro q
            cases ha : tv (fun s => decide (Sx.nm s ∈ D)) a with
            | false => rfl
            | true =>
              have := ib.mp (cl _ ub (.onward (.ax q) (.ax (ia.mpr ha))))
              rw [this]; rfl
          · intro q
            refine cl _ hx (.suppose ?_ hx)
            refine Classical.byCases (p := a ∈ D) (fun z => ?_) fun z => .any (no _ ua z) ub
            have ha := ia.mp z
            rw [ha] at q
            exact .ax (List.mem_cons_of_mem _ (ib.mpr (by simpa using q)))
    have := (is p hp).mp (gs p (List.mem_singleton.mpr rfl))
    rw [h _] at this
    cases this
theorem vd_negneg {p : Sx} : Vd (neg (neg p)) ↔ ∀ f, tv f p = true := by
  rw [vd_neg]
  refine forall_congr' fun f => ?_
  show (!tv f p || false) = false ↔ _
  cases tv f p <;> simp
end Mine
end

section
namespace Mine
open PySem
noncomputable def nmL : Sx -> List Str
  | .nm x => [x]
  | .fls => []
  | .bin _ p q => nmL p ++ (nmL q).filter fun x => !decide (x ∈ nmL p)
theorem nmL_l {w : W3} {p q : Sx} {x : Str} (h : x ∈ nmL p) : x ∈ nmL (.bin w p q) := List.mem_append_left _ h
theorem nmL_r {w : W3} {p q : Sx} {x : Str} (h : x ∈ nmL q) : x ∈ nmL (.bin w p q) := by
  by_cases hp : x ∈ nmL p
  · exact nmL_l hp
  · exact List.mem_append_right _ (List.mem_filter.mpr ⟨h, by rw [decide_eq_false hp]; rfl⟩)
theorem nmL_nodup : ∀ s : Sx, (nmL s).Nodup
  | .nm _ => List.nodup_cons.mpr ⟨(fun h => nomatch h), List.nodup_nil⟩
  | .fls => List.nodup_nil
  | .bin _ p q => by
    refine List.nodup_append.mpr ⟨nmL_nodup p, (nmL_nodup q).filter _, fun a ha b hb e => ?_⟩
    have := (List.mem_filter.mp hb).2
    rw [<- e, decide_eq_true ha] at this
    cases this
theorem tv_congr {f g : Str -> Bool} : ∀ s : Sx, (∀ x ∈ nmL s, f x = g x) -> tv f s = tv g s
  | .nm x, h => h x (List.mem_cons_self ..)
  | .fls, _ => rfl
  | .bin w p q, h => by
    have h1 := tv_congr p fun x hx => h x (nmL_l hx)
    have h2 := tv_congr q fun x hx => h x (nmL_r hx)
    cases w with
    | a => show (tv f p && tv f q) = (tv g p && tv g q); rw [h1, h2]
    | o => show (tv f p || tv f q) = (tv g p || tv g q); rw [h1, h2]
    | t => show (!tv f p || tv f q) = (!tv g p || tv g q); rw [h1, h2]
noncomputable def ix : List Str -> Str -> Nat
  | [], _ => 0
  | y :: r, x => if y = x then 0 else ix r x + 1
set_option tactic.hygienic true in
theorem ix_lt : ∀ {L : List Str} {x : Str}, x ∈ L -> ix L x < L.length
  | [], _, h => nomatch h
  | y :: r, x, h => by
    unfold ix
    split
    · exact Nat.zero_lt_succ _
    · rename_i hy
      exact Nat.succ_lt_succ (ix_lt ((List.mem_cons.mp h).resolve_left fun e => hy e.symm))
noncomputable def bit (L : List Str) (T : Nat) (x : Str) : Bool := decide (T / 2 ^ ix L x % 2 = 1)
noncomputable def tbl (f : Str -> Bool) : List Str -> Nat
  | [] => 0
  | x :: r => (if f x then 1 else 0) + 2 * tbl f r
theorem tbl_lt (f : Str -> Bool) : ∀ L : List Str, tbl f L < 2 ^ L.length
  | [] => by show 0 < 1; decide
  | x :: r => by
    have := tbl_lt f r
    show (if f x then 1 else 0) + 2 * tbl f r < 2 ^ (r.length + 1)
    rw [Nat.pow_succ]
    split <;> lia
theorem tbl_bit (f : Str -> Bool) : ∀ (L : List Str), L.Nodup -> ∀ x ∈ L, bit L (tbl f L) x = f x
  | [], _, _, h => nomatch h
  | y :: r, hn, x, h => by
    refine ob02 (List.nodup_cons.mp hn) fun h1 h2 => ?_
    unfold bit ix
    by_cases e : y = x
    · subst e
      rw [if_pos rfl]
      show decide (((if f y then 1 else 0) + 2 * tbl f r) / 2 ^ 0 % 2 = 1) = f y
      rw [Nat.pow_zero, Nat.div_one]
      cases f y with
      | true => exact decide_eq_true (by show (1 + 2 * tbl f r) % 2 = 1; lia)
      | false => exact decide_eq_false (by show ¬ (0 + 2 * tbl f r) % 2 = 1; lia)
    · rw [if_neg e]
      have hx := (List.mem_cons.mp h).resolve_left fun z => e z.symm
      have ih := tbl_bit f r h2 x hx
      have e2 : tbl f (y :: r) / 2 ^ (ix r x + 1) = tbl f r / 2 ^ ix r x := by
        rw [Nat.pow_succ, Nat.mul_comm, <- Nat.div_div_eq_div_mul]
        show ((if f y then 1 else 0) + 2 * tbl f r) / 2 / _ = _
        have : ((if f y then 1 else 0) + 2 * tbl f r) / 2 = tbl f r := by split <;> lia
        rw [this]
      rw [e2]; exact ih
noncomputable def tabs (s : Sx) : List Bool := (List.range (2 ^ (nmL s).length)).map fun T => tv (bit (nmL s) T) s
theorem tabs_all (s : Sx) : (tabs s).all id = true ↔ ∀ f, tv f s = true := by
  unfold tabs
  rw [List.all_map, List.all_eq_true]
  constructor
  · intro h f
    have := h (tbl f (nmL s)) (List.mem_range.mpr (tbl_lt f _))
    rw [<- tv_congr s (tbl_bit f (nmL s) (nmL_nodup s))]; exact this
  · exact fun h T _ => h _
theorem tabs_any (s : Sx) : (tabs s).any id = true ↔ ∃ f, tv f s = true := by
  unfold tabs
  rw [List.any_map, List.any_eq_true]
  constructor
  · exact fun ⟨T, _, h⟩ => mk11 _ h
  · rintro ⟨f, h⟩
    refine mk12 (tbl f (nmL s)) (List.mem_range.mpr (tbl_lt f _)) ?_
    show tv (bit (nmL s) (tbl f (nmL s))) s = true
    rw [tv_congr s (tbl_bit f (nmL s) (nmL_nodup s))]; exact h
theorem boolsOf_b : ∀ bs : List Bool, boolsOf (bs.map D.bool) = some bs
  | [] => rfl
  | b :: bs => by
    show (match boolsOf (bs.map D.bool) with
      | some bs => some (b :: bs)
      | none => none) = _
    rw [boolsOf_b bs]
theorem all_b (bs : List Bool) : bf0 .all [.list (bs.map D.bool)] = ret (.bool (bs.all id)) := by
  funext S
  show optM ((boolsOf (bs.map D.bool)).map fun bs => D.bool (bs.all id)) S = _
  rw [boolsOf_b]; rfl
end Mine
end

section
namespace Mine
open PySem
theorem nmL_len : ∀ s : Sx, (nmL s).length <= s.sz
  | .nm _ => Nat.le_refl _
  | .fls => Nat.zero_le _
  | .bin _ p q => by
    have h1 := nmL_len p
    have h2 := nmL_len q
    have h3 := List.length_filter_le (fun x => !decide (x ∈ nmL p)) (nmL q)
    show (nmL p ++ (nmL q).filter fun x => !decide (x ∈ nmL p)).length <= p.sz + q.sz + 1
    rw [List.length_append]; lia
theorem nmL_in {NL : List Str} : ∀ s : Sx, inN NL s -> ∀ x ∈ nmL s, x ∈ NL
  | .nm _, h, x, hx => by rw [List.mem_singleton.mp hx]; exact h
  | .fls, _, x, hx => nomatch hx
  | .bin _ p q, h, x, hx => by
    rcases List.mem_append.mp hx with hx | hx
    · exact nmL_in p h.1 x hx
    · exact nmL_in q h.2 x (List.mem_filter.mp hx).1
theorem nin_strs (x : Str) (L : List Str) : cmpM .NotIn (.str x) (.list (L.map D.str)) = ret (!decide (x ∈ L)) := by
  show bnd (inM (.str x) (.list (L.map D.str))) (fun c => ret (!c)) = _
  rw [inM_lst (d := .str x) (p := .str x) rfl]
  have : (L.any fun y => PyData.eqv (.str y) (.str x)) = decide (x ∈ L) := by
    rw [Bool.eq_iff_iff, List.any_eq_true, decide_eq_true_iff]
    constructor
    · rintro ⟨y, hy, e⟩
      rw [eqv_str, decide_eq_true_iff] at e; exact e ▸ hy
    · exact fun h => mk12 x h (by rw [eqv_str]; exact decide_eq_true rfl)
  rw [this]; rfl
theorem index_ix : ∀ {L : List Str} {x : Str}, x ∈ L -> indexL (.str x) (L.map PyData.str) = some (ix L x)
  | [], _, h => nomatch h
  | y :: r, x, h => by
    show (if PyData.eqv (.str y) (.str x) then some 0 else (indexL (.str x) (r.map PyData.str)).map (· + 1)) = _
    rw [eqv_str]
    unfold ix
    by_cases e : y = x
    · rw [if_pos (decide_eq_true e), if_pos e]
    · rw [if_neg (by rw [decide_eq_false e]; exact Bool.false_ne_true), if_neg e, index_ix ((List.mem_cons.mp h).resolve_left fun z => e z.symm)]; rfl
theorem meth_ix {L : List Str} {x : Str} (h : x ∈ L) : methS mIndex (ret (.list (L.map D.str))) (ret [.str x]) = ret (.int (ix L x : Nat)) := by
  funext S
  show lIndex (L.map D.str) (.str x) S = _
  unfold lIndex
  rw [pys_strs]
  show (match anyEq (L.map PyData.str) (.str x) with
    | some _ => optM ((indexL (.str x) (L.map PyData.str)).map fun k => D.int k) S
    | none => .stuck) = _
  rw [anyEq_strs, index_ix h]; rfl
theorem len2 (s : Sx) : bnd (consM (ret (enc s)) (ret [])) (fun ds => bf0 .len ds) = ret (.int (match s with
    | .nm _ => 2
    | .fls => 1
    | .bin .. => 3)) := by cases s <;> rfl
theorem pow_at {k : Nat} (h : k < 4) : itemM (.list [.int 1, .int 2, .int 4, .int 8]) (.int (k : Nat)) = ret (.int ((2 ^ k : Nat) : Int)) := by
  apply lt4 k h
  · exact itemL_at (k := 0) rfl
  · exact itemL_at (k := 1) rfl
  · exact itemL_at (k := 2) rfl
  · exact itemL_at (k := 3) rfl
theorem pow_at5 {k : Nat} (h : k <= 4) : itemM (.list [.int 1, .int 2, .int 4, .int 8, .int 16]) (.int (k : Nat)) = ret (.int ((2 ^ k : Nat) : Int)) := by
  match k, h with
  | 0, _ => exact itemL_at (k := 0) rfl
  | 1, _ => exact itemL_at (k := 1) rfl
  | 2, _ => exact itemL_at (k := 2) rfl
  | 3, _ => exact itemL_at (k := 3) rfl
  | 4, _ => exact itemL_at (k := 4) rfl
theorem bit_int (T k : Nat) : ((((T : Nat) : Int).fdiv ((2 ^ k : Nat) : Int)).fmod 2 == 1) = decide (T / 2 ^ k % 2 = 1) := by
  have h1 : ((T : Nat) : Int).fdiv ((2 ^ k : Nat) : Int) = ((T / 2 ^ k : Nat) : Int) := by
    rw [Int.fdiv_eq_ediv_of_nonneg _ (Int.natCast_nonneg _)]; rfl
  have h2 : ((T / 2 ^ k : Nat) : Int).fmod 2 = ((T / 2 ^ k % 2 : Nat) : Int) := by
    rw [Int.fmod_eq_emod_of_nonneg _ (by decide)]; rfl
  rw [h1, h2]
  by_cases h : T / 2 ^ k % 2 = 1
  · rw [decide_eq_true h, h]; rfl
  · rw [decide_eq_false h, beq_eq_false_iff_ne]
    intro e
    exact h (Int.ofNat.inj e)
namespace L11
theorem c_names (n : Nat) (a : D) : callF C11 (n + 1) (Str.ofString "_law_names") [a] = s__law_names (callF C11 n) a := by kernel_rfl
theorem names_ok : ∀ (s : Sx) (k : Nat), s.dep <= k -> s.sz <= 900 -> callF C11 k (Str.ofString "_law_names") [enc s] = ret (.list ((nmL s).map D.str)) := by
  intro s
  induction s with
  | nm x =>
    intro k hk _
    match k, hk with
    | k + 1, _ => rw [c_names]; rfl
  | fls =>
    intro k hk _
    match k, hk with
    | k + 1, _ => rw [c_names]; rfl
  | bin w p q ip iq =>
    intro k hk hz
    have hpq : max p.dep q.dep + 1 <= k := hk
    have hz' : p.sz + q.sz + 1 <= 900 := hz
    match k, hpq with
    | k + 1, hpq =>
      have e1 := ip k (by lia) (by lia)
      have e2 := iq k (by lia) (by lia)
      have l1 := nmL_len p
      have l2 := nmL_len q
      rw [c_names]
      show finM (b__law_names_6 (callF C11 k) [some (enc (.bin w p q)), none, none, none]) = _
      unfold b__law_names_6
      simp only [lk0, lkS, len2, cmpS_ret, Mine.eq_ints]
      show finM (b__law_names_4 (callF C11 k) [some (enc (.bin w p q)), none, none, none]) = _
      unfold b__law_names_4
      simp only [lk0, lkS, len2, cmpS_ret, Mine.eq_ints]
      show finM (b__law_names_2 (callF C11 k) [some (enc (.bin w p q)), none, none, none]) = _
      unfold b__law_names_2
      simp only [lk0, lkS, subS_ret, enc_1, consM_ret, bnd_ret, e1, seqM_next, put0, putS]
      unfold b__law_names_1
      simp only [lk0, lkS, subS_ret, enc_2, consM_ret, callN_ret, e2, calm_ret]
      have ec : comp0 (ret (.list ((nmL q).map D.str))) (t__law_names_0 (callF C11 k) [some (enc (.bin w p q)), some (.list ((nmL p).map D.str)), none, none]) = ret (.list (((nmL q).filter fun x => !decide (x ∈ nmL p)).map D.str)) := by
        show bnd (compL (t__law_names_0 (callF C11 k) [some (enc (.bin w p q)), some (.list ((nmL p).map D.str)), none, none]) ((nmL q).map D.str)) (fun ys => mkList cfg0 pos0 ys) = _
        rw [compL_filter (p := fun d => match d with
          | .str x => !decide (x ∈ nmL p)
          | _ => false) _ fun d hd => ?_]
        · rw [List.filter_map]; rfl
        · refine ob12 (List.mem_map.mp hd) fun x _ er1 => ?_; subst er1
          show turnS (andM (cmpM .NotIn (.str x) (.list ((nmL p).map D.str))) (ret true)) (ret (.str x)) = ret (if (!decide (x ∈ nmL p)) = true then some (.str x) else none)
          rw [nin_strs]
          cases decide (x ∈ nmL p) <;> rfl
      rw [ec, binS_ret, add_lsts _ _ (by
        have h3 := List.length_filter_le (fun x => !decide (x ∈ nmL p)) (nmL q)
        rw [List.length_map, List.length_map]; lia), <- List.map_append]
      rfl
theorem c_true (n : Nat) (a b c : D) : callF C11 (n + 1) (Str.ofString "_law_true") [a, b, c] = s__law_true (callF C11 n) a b c := by kernel_rfl
theorem true_ok {L : List Str} (hL : L.length <= 4) (T : Nat) : ∀ (s : Sx) (k : Nat), s.dep <= k -> (∀ x ∈ nmL s, x ∈ L) -> callF C11 k (Str.ofString "_law_true") [enc s, .list (L.map D.str), .int (T : Nat)] = ret (.bool (tv (bit L T) s)) := by
  intro s
  induction s with
  | nm x =>
    intro k hk hx
    have hm := hx x (List.mem_cons_self ..)
    match k, hk with
    | k + 1, _ =>
      rw [c_true]
      show finM (seqM (b__law_true_5 (callF C11 k) [some (enc (.nm x)), some (.list (L.map D.str)), some (.int (T : Nat)), some (.str (Str.ofString "name")), none, none, none]) (b__law_true_4 (callF C11 k))) = _
      unfold b__law_true_5
      have e2 : itemM (enc (.nm x)) (.int 1) = ret (.str x) := rfl
      have hp : (((2 ^ ix L x : Nat) : Int)) ≠ 0 := by
        have : 0 < 2 ^ ix L x := Nat.pow_pos (by decide)
        lia
      simp only [lk0, lkS, ls4, subS_ret, e2, consM_ret, meth_ix hm, pow_at (Nat.lt_of_lt_of_le (ix_lt hm) hL), binS_ret, div_ints _ _ hp, mod_ints _ 2 (by decide), cmpB_ret, Mine.eq_ints, bnd_ret, bit_int]
      rfl
  | fls =>
    intro k hk _
    match k, hk with
    | k + 1, _ => rw [c_true]; rfl
  | bin w p q ip iq =>
    intro k hk hx
    have hpq : max p.dep q.dep + 1 <= k := hk
    match k, hpq with
    | k + 1, hpq =>
      have e1 := ip k (by lia) fun x h => hx x (nmL_l h)
      have e2 := iq k (by lia) fun x h => hx x (nmL_r h)
      rw [c_true]
      have e0 : s__law_true (callF C11 k) (enc (.bin w p q)) (.list (L.map D.str)) (.int (T : Nat)) = finM (b__law_true_2 (callF C11 k) [some (enc (.bin w p q)), some (.list (L.map D.str)), some (.int (T : Nat)), some (.str w.s), none, none, none]) := by cases w <;> rfl
      rw [e0]
      unfold b__law_true_2
      simp only [lk0, lkS, subS_ret, enc_1, consM_ret, bnd_ret, e1, seqM_next, put0, putS]
      unfold b__law_true_1
      simp only [lk0, lkS, subS_ret, enc_2, consM_ret, bnd_ret, e2, seqM_next, put0, putS]
      unfold b__law_true_0
      cases w with
      | a => cases h1 : tv (bit L T) p <;> cases h2 : tv (bit L T) q <;> (show _ = ret (D.bool (tv (bit L T) p && tv (bit L T) q)); rw [h1, h2]; rfl)
      | o => cases h1 : tv (bit L T) p <;> cases h2 : tv (bit L T) q <;> (show _ = ret (D.bool (tv (bit L T) p || tv (bit L T) q)); rw [h1, h2]; rfl)
      | t => cases h1 : tv (bit L T) p <;> cases h2 : tv (bit L T) q <;> (show _ = ret (D.bool (!tv (bit L T) p || tv (bit L T) q)); rw [h1, h2]; rfl)
end L11
end Mine
end

section
namespace Mine
open PySem
theorem compL_eq {turn : D -> EM (Option D)} {f : Nat -> D} : ∀ (l : List Nat), (∀ T ∈ l, turn (.int (T : Nat)) = ret (some (f T))) -> compL turn (l.map fun k => D.int (k : Nat)) = ret (l.map f)
  | [], _ => rfl
  | T :: l, h => by
    have q : compL turn ((T :: l).map fun k => D.int (k : Nat)) = bnd (turn (.int (T : Nat))) fun x => bnd (compL turn (l.map fun k => D.int (k : Nat))) fun ys => ret (match x with
      | some y => y :: ys
      | none => ys) := rfl
    rw [q, h T (List.mem_cons_self ..), bnd_ret, compL_eq l fun x hx => h x (List.mem_cons_of_mem _ hx)]; rfl
theorem meth_indexB {c : Nat} (h : LC c) : ∃ k : Nat, methS mIndex (ret (.str abc)) (ret [.str (chr1 c)]) = ret (.int k) := by
  refine ob11 (index_of h) fun k e => ?_
  refine mk11 k ?_
  funext S
  show optM ((strIndex abc (chr1 c)).map fun k => D.int k) S = _
  have e' : strIndex abc (chr1 c) = some k := e
  rw [e']; rfl
theorem any_b (bs : List Bool) : bAny.run false [.list (bs.map D.bool)] = ret (.bool (bs.any id)) := by
  funext S
  show optM ((boolsOf (bs.map D.bool)).map fun bs => D.bool (bs.any id)) S = _
  rw [boolsOf_b]; rfl
theorem Dr.k2 {s : Sx} (h : Dr s) : (neg (neg s)).dep <= 8 /\ (pl (neg (neg s)) []).length <= 16 /\ (pl (neg (neg s)) []).countP isT <= 10 /\ (neg s).dep <= 8 /\ (pl (neg s) []).length <= 16 /\ (pl s []).length <= 16 := by
  refine ob14 h.bd fun K k1 k2 k3 k4 => ?_
  have hd := h.dep
  have hp := dep_pos s
  have d1 : (neg s).dep = max s.dep 1 + 1 := rfl
  have d2 : (neg (neg s)).dep = max (neg s).dep 1 + 1 := rfl
  have c1 : SubCl (.fls :: K) := cl_fls k1
  have c2 : SubCl (neg s :: .fls :: K) := cl_bin c1 (List.mem_cons_of_mem _ k2) (List.mem_cons_self ..)
  have c3 : SubCl (neg (neg s) :: neg s :: .fls :: K) := cl_bin c2 (List.mem_cons_self ..) (List.mem_cons_of_mem _ (List.mem_cons_self ..))
  have sub : ∀ y ∈ pl (neg (neg s)) [], y ∈ neg (neg s) :: neg s :: .fls :: K := pl_in c3 (neg (neg s)) [] (List.mem_cons_self ..) fun _ m => nomatch m
  refine ⟨by lia, Bd.pl ⟨_, c3, List.mem_cons_self .., by show K.length + 1 + 1 + 1 <= 16; lia⟩, ?_, by lia, Bd.pl ⟨_, c2, List.mem_cons_self .., by show K.length + 1 + 1 <= 16; lia⟩, Bd.pl ⟨_, k1, k2, by lia⟩⟩
  have h1 : ((pl (neg (neg s)) []).filter isT).length <= ((neg (neg s) :: neg s :: .fls :: K).filter isT).length := nodup_le ((pl_nodup (neg (neg s)) [] List.nodup_nil).filter _) fun y hy => List.mem_filter.mpr ⟨sub y (List.mem_filter.mp hy).1, (List.mem_filter.mp hy).2⟩
  rw [<- List.countP_eq_length_filter, <- List.countP_eq_length_filter] at h1
  have h2 := cnt_t (neg s :: .fls :: K) (neg (neg s))
  have h3 := cnt_t (.fls :: K) (neg s)
  have h4 := cnt_f K (s := .fls) rfl
  lia
namespace L11
structure CfL (cf : CF) (xs : List Int) : Prop where
  draw : DrS (cf (Str.ofString "_law_drawn") [.list (xs.map D.int), .int 2, .int 6, .int 4])
  names : ∀ s : Sx, s.dep <= 6 -> cf (Str.ofString "_law_names") [enc s] = ret (.list ((nmL s).map D.str))
  tru : ∀ (L : List Str) (s : Sx) (T : Nat), L.length <= 4 -> s.dep <= 6 -> (∀ x ∈ nmL s, x ∈ L) -> cf (Str.ofString "_law_true") [enc s, .list (L.map D.str), .int (T : Nat)] = ret (.bool (tv (bit L T) s))
  told : ∀ s : Sx, s.dep <= 8 -> (pl s []).length <= 16 -> (pl s []).countP isT <= 10 -> ∀ S, ∃ b d S', cf (Str.ofString "told") [enc s] S = .ok (.tuple [.str (wd b), d]) S' /\ (b = true ↔ Vd s)
  shown : ∀ s : Sx, s.dep <= 8 -> (pl s []).length <= 16 -> ∀ S, ∃ b S', cf (Str.ofString "is_shown") [enc s] S = .ok (.bool b) S' /\ (b = true ↔ Vd s)
noncomputable abbrev sgL (xs : List Int) (a b c d e : Option D) : Sg := [some (.list (xs.map D.int)), a, b, c, d, e, none, none, none, none, none, none, none, none, none]
theorem law_tabs {cf : Str -> List D -> EM D} {xs : List Int} (C : CfL cf xs) {s : Sx} (hd : s.dep <= 6) (hn : (nmL s).length <= 4) :
    comp0 (bnd (consM (subS (lst0 (consM (ret (.int (1))) (consM (ret (.int (2))) (consM (ret (.int (4))) (consM (ret (.int (8))) (consM (ret (.int (16))) (ret []))))))) (bnd (consM (ret (.list ((nmL s).map D.str))) (ret [])) fun ds => bf0 .len ds)) (ret [])) fun ds => bf0 .range ds) (t_law_7 cf (sgL xs (some (enc s)) (some (.list ((nmL s).map D.str))) none none none)) = ret (.list ((tabs s).map D.bool)) := by
  have h16 : 2 ^ (nmL s).length <= 2 ^ 4 := Nat.pow_le_pow_right (by decide) hn
  have hz : 2 ^ (nmL s).length <= 1000 := Nat.le_trans h16 (by decide)
  simp only [consM_ret, bnd_ret, ls5, len_lst, List.length_map, subS_ret, pow_at5 hn, range1]
  show bnd (optM (itemsOf (.range 0 ((2 ^ (nmL s).length : Nat) : Int)))) (fun ds => bnd (compL _ ds) fun ys => mkList cfg0 pos0 ys) = _
  rw [items_rng _ hz]
  show bnd (compL (t_law_7 cf (sgL xs (some (enc s)) (some (.list ((nmL s).map D.str))) none none none)) ((List.range (2 ^ (nmL s).length)).map fun k => D.int (k : Nat))) (fun ys => mkList cfg0 pos0 ys) = _
  rw [compL_eq (f := fun T => .bool (tv (bit (nmL s) T) s)) _ fun T _ => ?_]
  · show ret (D.list _) = _
    unfold tabs
    rw [List.map_map]; rfl
  · show turnS (ret true) (calm (cf (Str.ofString "_law_true") [enc s, .list ((nmL s).map D.str), .int (T : Nat)])) = _
    rw [C.tru (nmL s) s T hn hd fun x hx => hx]; rfl
theorem law_ok {cf : Str -> List D -> EM D} {xs : List Int} (C : CfL cf xs) (S : Store) : ∃ S', s_law cf (.list (xs.map D.int)) S = .ok (.bool true) S' := by
  refine ob22 (C.draw S) fun s S1 e1 hd => ?_
  refine ob06 hd.k2 fun k1 k2 k3 k4 k5 k6 => ?_
  have hn : (nmL s).length <= 4 := by
    refine ob12 hd.nms fun NL h1 h2 => ?_
    exact Nat.le_trans ((nmL_nodup s).length_le_of_subset (nmL_in s h2)) h1
  refine ob32 (C.told (neg (neg s)) k1 k2 k3 S1) fun b d S2 e2 hb => ?_
  refine ob22 (C.shown (neg s) k4 k5 S2) fun b2 S3 e3 hb2 => ?_
  refine ob22 (C.shown s (Nat.le_trans hd.dep (by decide)) k6 S3) fun b3 S4 e4 hb3 => ?_
  have hA : (tabs s).all id = b := by
    rw [Bool.eq_iff_iff, tabs_all, hb, vd_negneg]
  have hB : (!(tabs s).any id) = b2 := by
    rw [Bool.eq_iff_iff, hb2, vd_neg, Bool.not_eq_true', <- Bool.not_eq_true, tabs_any]
    constructor
    · exact fun h f => by
        cases hf : tv f s with
        | false => rfl
        | true => exact absurd ⟨f, hf⟩ h
    · rintro h ⟨f, hf⟩
      rw [h f] at hf; cases hf
  have hC : b = false -> b3 = false := fun h => by
    cases h3 : b3 with
    | false => rfl
    | true =>
      have hv := hb3.mp h3
      have : (tabs s).all id = true := (tabs_all s).mpr fun f => vd_tv hv f
      rw [hA, h] at this; cases this
  have eall := all_b (tabs s)
  rw [hA] at eall
  have eany := any_b (tabs s)
  show ∃ S', finM (b_law_10 cf (sgL xs none none none none none)) S = _
  have f10 : finM (b_law_10 cf (sgL xs none none none none none)) S = finM (b_law_9 cf (sgL xs (some (enc s)) none none none none)) S1 := by
    unfold b_law_10
    exact fin_put (d := enc s) (S1 := S1) e1
  have f9 : finM (b_law_9 cf (sgL xs (some (enc s)) none none none none)) S1 = finM (b_law_8 cf (sgL xs (some (enc s)) (some (.list ((nmL s).map D.str))) none none none)) S1 := by
    unfold b_law_9
    exact fin_put (d := .list ((nmL s).map D.str)) (S1 := S1) (congrFun (C.names s hd.dep) S1)
  have f8 : finM (b_law_8 cf (sgL xs (some (enc s)) (some (.list ((nmL s).map D.str))) none none none)) S1 = finM (b_law_6 cf (sgL xs (some (enc s)) (some (.list ((nmL s).map D.str))) (some (.list ((tabs s).map D.bool))) none none)) S1 := by
    unfold b_law_8
    exact fin_put (d := .list ((tabs s).map D.bool)) (S1 := S1) (congrFun (law_tabs C hd.dep hn) S1)
  have f6 : finM (b_law_6 cf (sgL xs (some (enc s)) (some (.list ((nmL s).map D.str))) (some (.list ((tabs s).map D.bool))) none none)) S1 = finM (b_law_5 cf (sgL xs (some (enc s)) (some (.list ((nmL s).map D.str))) (some (.list ((tabs s).map D.bool))) (some (enc (neg s))) none)) S1 := by
    unfold b_law_6
    exact fin_put (d := enc (neg s)) (S1 := S1) rfl
  have f5 : finM (b_law_5 cf (sgL xs (some (enc s)) (some (.list ((nmL s).map D.str))) (some (.list ((tabs s).map D.bool))) (some (enc (neg s))) none)) S1 = finM (b_law_4 cf (sgL xs (some (enc s)) (some (.list ((nmL s).map D.str))) (some (.list ((tabs s).map D.bool))) (some (enc (neg s))) (some (.str (wd b))))) S2 := by
    unfold b_law_5
    refine fin_put (d := .str (wd b)) (S1 := S2) ?_
    show bnd (calm (cf (Str.ofString "told") [enc (neg (neg s))])) (fun a => itemM a (.int 0)) S1 = _
    rw [bnd_st (calm_st e2)]; rfl
  have f4 : finM (b_law_4 cf (sgL xs (some (enc s)) (some (.list ((nmL s).map D.str))) (some (.list ((tabs s).map D.bool))) (some (enc (neg s))) (some (.str (wd b))))) S2 = finM (b_law_2 cf (sgL xs (some (enc s)) (some (.list ((nmL s).map D.str))) (some (.list ((tabs s).map D.bool))) (some (enc (neg s))) (some (.str (wd b))))) S2 := by
    unfold b_law_4
    refine (fin_if (b := false) (S1 := S2) ?_).trans ?_
    · show cmpS .NotEq (ret (.str (wd b))) (subS (lst0 (consM (ret (.str (Str.ofString "worlds"))) (consM (ret (.str (Str.ofString "shown"))) (ret [])))) (bnd (bnd (bf0 .all [.list ((tabs s).map D.bool)]) fun d => bnd (ret []) fun ds => ret (d :: ds)) fun ds => bf0 .int ds)) S2 = _
      rw [eall]
      cases b <;> rfl
    · rw [if_neg Bool.false_ne_true, fin_nxt]
  have f2 : finM (b_law_2 cf (sgL xs (some (enc s)) (some (.list ((nmL s).map D.str))) (some (.list ((tabs s).map D.bool))) (some (enc (neg s))) (some (.str (wd b))))) S2 = finM (b_law_0 cf (sgL xs (some (enc s)) (some (.list ((nmL s).map D.str))) (some (.list ((tabs s).map D.bool))) (some (enc (neg s))) (some (.str (wd b))))) S3 := by
    unfold b_law_2
    refine (fin_if (b := false) (S1 := S3) ?_).trans ?_
    · show bnd (calm (cf (Str.ofString "is_shown") [enc (neg s)])) (fun a => bnd (bnd (bAny.run false [.list ((tabs s).map D.bool)]) fun a => unop .Not a) fun c => cmpM .NotEq a c) S2 = _
      rw [bnd_st (calm_st e3), eany]
      show Out.ok (!(b2 == !(tabs s).any id)) S3 = _
      rw [hB]
      cases b2 <;> rfl
    · rw [if_neg Bool.false_ne_true, fin_nxt]
  rw [f10, f9, f8, f6, f5, f4, f2]
  unfold b_law_0
  cases hbb : b with
  | true =>
    rw [hbb] at eall
    refine mk11 S3 (fin_ret_st ?_)
    show bnd (bf0 .all [.list ((tabs s).map D.bool)]) _ S3 = _
    rw [eall]; rfl
  | false =>
    rw [hbb] at eall
    have h3 := hC hbb
    refine mk11 S4 (fin_ret_st ?_)
    show bnd (bf0 .all [.list ((tabs s).map D.bool)]) (fun a => bnd (truthM a) fun t => match t with
      | true => ret a
      | false => bnd (calm (cf (Str.ofString "is_shown") [enc s])) fun a => unop .Not a) S3 = _
    rw [eall]
    show bnd (calm (cf (Str.ofString "is_shown") [enc s])) (fun a => unop .Not a) S3 = _
    rw [bnd_st (calm_st e4), h3]; rfl
theorem c_name (n : Nat) (seed : Int) (k : Nat) (hk : k <= 10) : ∃ x : Str, callF C11 (n + 1) (Str.ofString "_law_name_by") [.int seed, .int k] = ret (.str x) := by
  have : callF C11 (n + 1) (Str.ofString "_law_name_by") [.int seed, .int k] = s__law_name_by mIndex (callF C11 n) (.int seed) (.int k) := by kernel_rfl
  refine ob12 (name_by_ok mIndex (fun _ h => meth_indexB h) (callF C11 n) seed k hk) fun x e _ => ?_
  exact mk11 x (this.trans e)
theorem c_nf (seed : Int) : ∃ nf : Nat -> Str, ∀ (n k : Nat), k <= 10 -> callF C11 (n + 1) (Str.ofString "_law_name_by") [.int seed, .int k] = ret (.str (nf k)) := by
  have : ∀ k : Nat, ∃ x : Str, ∀ n, k <= 10 -> callF C11 (n + 1) (Str.ofString "_law_name_by") [.int seed, .int k] = ret (.str x) := fun k => by
    by_cases hk : k <= 10
    · refine ob12 (name_by_ok mIndex (fun _ h => meth_indexB h) (fun _ _ => stk) seed k hk) fun x e _ => ?_
      refine mk11 x (fun n _ => ?_)
      have : callF C11 (n + 1) (Str.ofString "_law_name_by") [.int seed, .int k] = s__law_name_by mIndex (fun _ _ => stk) (.int seed) (.int k) := by kernel_rfl
      exact this.trans e
    · exact mk11 (Str.ofString "") (fun _ h => absurd h hk)
  exact mk11 (fun k => Classical.choose (this k)) (fun n k hk => Classical.choose_spec (this k) n hk)
theorem c_cell (n : Nat) (xs : List Int) (k : Nat) : ∃ i : Int, callF C11 (n + 1) (Str.ofString "_law_cell_at") [.list (xs.map D.int), .int k] = ret (.int i) := by
  have : callF C11 (n + 1) (Str.ofString "_law_cell_at") [.list (xs.map D.int), .int k] = s__law_cell_at (callF C11 n) (.list (xs.map D.int)) (.int k) := by kernel_rfl
  rw [this]; exact cell_at_ok _ xs k
theorem c_joined (n : Nat) (i : Int) (a b : Sx) : ∃ w c d, callF C11 (n + 1) (Str.ofString "_law_joined") [.int i, enc a, enc b] = ret (enc (.bin w c d)) /\ ((c = a /\ d = b) \/ (c = b /\ d = a)) := by
  have : callF C11 (n + 1) (Str.ofString "_law_joined") [.int i, enc a, enc b] = s__law_joined (callF C11 n) (.int i) (enc a) (enc b) := by kernel_rfl
  rw [this]; exact joinedX _ i a b
theorem c_step (n : Nat) (seed c : Int) (nf : Nat -> Str) (hN : ∀ (n k : Nat), k <= 10 -> callF C11 (n + 1) (Str.ofString "_law_name_by") [.int seed, .int k] = ret (.str (nf k))) (k : Nat) (p : List Sx) (hp : PlX (nl nf) k p) (hl : p.length <= 100) : ∃ q, callF C11 (n + 2) (Str.ofString "_law_step") [.list (p.map enc), .int c, .int seed] = ret (.list (q.map enc)) /\ PlX (nl nf) (k + 1) q /\ q.length <= p.length + 1 := by
  have : callF C11 (n + 2) (Str.ofString "_law_step") [.list (p.map enc), .int c, .int seed] = s__law_step (callF C11 (n + 1)) (.list (p.map enc)) (.int c) (.int seed) := by kernel_rfl
  rw [this]; exact stepX _ c seed nf hp hl (c_joined n) (hN n)
theorem c_W (n : Nat) : CfW (callF C11 (n + 3)) where
  cell := c_cell (n + 2)
  wide := fun seed cell => by
    have : callF C11 (n + 3) (Str.ofString "_law_wide") [.int seed, .int cell, .int 4] = s__law_wide (callF C11 (n + 2)) (.int seed) (.int cell) (.int 4) := by kernel_rfl
    rw [this]; exact wide_ok _ seed cell (c_name (n + 1) _)
  known := fun seed cell => by
    have : callF C11 (n + 3) (Str.ofString "_law_known_by") [.int seed, .int cell] = s__law_known_by (callF C11 (n + 2)) (.int seed) (.int cell) := by kernel_rfl
    rw [this]
    refine ob12 (known_ok (callF C11 (n + 2)) seed cell (c_name (n + 1) _)) fun s e h => ?_
    exact .of e h
  stat := fun seed cs hcs => by
    have : callF C11 (n + 3) (Str.ofString "_law_statement_by") [.list (cs.map D.int), .int seed] = s__law_statement_by (callF C11 (n + 2)) (.list (cs.map D.int)) (.int seed) := by kernel_rfl
    rw [this]
    refine ob11 (c_nf seed) fun nf hN => ?_
    obtain ⟨d, e, s, rfl, h1, h2, K, k1, k2, k3, k4⟩ := statementX (callF C11 (n + 2)) seed nf cs (by lia) (fun c k p h1 h2 => c_step n seed c nf hN k p h1 h2) (hN (n + 1))
    exact .of e ⟨by lia, ⟨K, k1, k2, by lia, by lia⟩, ⟨nl nf, Nat.le_refl 4, h2⟩⟩
theorem sz_of {s : Sx} (h : s.dep <= 6) : s.sz <= 900 := by
  have h2 := sz_dep s
  have h3 : 2 ^ s.dep <= 2 ^ 6 := Nat.pow_le_pow_right (by decide) h
  lia
theorem c_L (xs : List Int) : CfL (callF C11 240) xs where
  draw := by
    have : callF C11 240 (Str.ofString "_law_drawn") [.list (xs.map D.int), .int 2, .int 6, .int 4] = s__law_drawn (callF C11 239) (.list (xs.map D.int)) (.int ((2 : Nat) : Int)) (.int 6) (.int 4) := by kernel_rfl
    rw [this]; exact drawn_ok (c_W 236) xs 2
  names := fun s h => names_ok s 240 (by lia) (sz_of h)
  tru := fun L s T hL h hx => true_ok hL T s 240 (by lia) hx
  told := fun s h1 h2 h3 S => told_ok s h1 h2 h3 239 (by decide) S
  shown := fun s h1 h2 S => shown_ok s h1 h2 239 (by decide) S
theorem law_run (xs : List Int) : ∃ S', runFn C11 (callF C11 240) f_law [.list (xs.map D.int)] [] = .ok (.bool true) S' := by
  rw [e_law]
  exact law_ok (c_L xs) []
end L11
end Mine
end

section
set_option genSizeOf false
set_option genInjectivity false
namespace Mine
open PySem
structure Hid where
  ρ : List Addr
  fr : List Addr
noncomputable abbrev lstO (vs : Array Value) (n : Nat) : Obj := { cls := .type "list", dict := none, data := .seq vs n, slots := #[] }
noncomputable abbrev tupO (vs : Array Value) (n : Nat) : Obj := { cls := .type "tuple", dict := none, data := .seq vs n, slots := #[] }
noncomputable abbrev rngO (i j : Int) (t u v : Tok) : Obj := { cls := .type "range", dict := none, data := .fields #[.int i t, .int j u, .int 1 v], slots := #[] }
noncomputable abbrev dicO (es : Array DictEntry) (n : Nat) : Obj := { cls := .type "dict", dict := none, data := .dict es n, slots := #[] }
mutual
inductive Rd (P : Params) (H : Hid) (h : Heap) : Value -> D -> Prop
  | none : Rd P H h .none .none
  | bool (b) : Rd P H h (.bool b) (.bool b)
  | int (i t) : Rd P H h (.int i t) (.int i)
  | str (x t) : PyData.strOk x = true -> x.length <= sizeLine -> Rd P H h (.str x t) (.str x)
  | tuple {a vs n ds} : a ∉ H.ρ -> a ∉ H.fr -> h.get? a = some (tupO vs n) -> vs.size <= sizeLine -> RdAll P H h vs.toList ds -> Rd P H h (.ref a) (.tuple ds)
  | list {a vs n ds} : a ∉ H.ρ -> a ∉ H.fr -> h.get? a = some (lstO vs n) -> vs.size <= sizeLine -> RdAll P H h vs.toList ds -> Rd P H h (.ref a) (.list ds)
  | dict {a es n kvs} : a ∉ H.ρ -> a ∉ H.fr -> h.get? a = some (dicO es n) -> es.size <= sizeLine -> (kvs.map (·.1)).Nodup -> RdEnts P H h es.toList kvs -> a ≠ sysModules -> Rd P H h (.ref a) (.dict kvs)
  | range {a i j t u v} : a ∉ H.ρ -> a ∉ H.fr -> h.get? a = some (rngO i j t u v) -> Rd P H h (.ref a) (.range i j)
  | loc {n a} : H.ρ[n]? = some a -> Rd P H h (.ref a) (.loc n)
inductive RdAll (P : Params) (H : Hid) (h : Heap) : List Value -> List D -> Prop
  | nil : RdAll P H h [] []
  | cons {v vs d ds} : Rd P H h v d -> RdAll P H h vs ds -> RdAll P H h (v :: vs) (d :: ds)
inductive RdEnts (P : Params) (H : Hid) (h : Heap) : List DictEntry -> List (Str × D) -> Prop
  | nil : RdEnts P H h [] []
  | cons {e r x t d kvs} : e.key = .str x t -> PyData.strOk x = true -> x.length <= sizeLine -> e.hash = PyData.keyHash P x -> Rd P H h e.val d -> RdEnts P H h r kvs -> RdEnts P H h (e :: r) ((x, d) :: kvs)
end
noncomputable def plainO (o : Obj) : Bool := match o.data with
  | .dict .. => false
  | _ => true
structure Ext (X : List Addr) (H : Hid) (h : Heap) (H' : Hid) (h' : Heap) : Prop where
  fr : H'.fr = H.fr
  pre : ∃ t, H'.ρ = H.ρ ++ t /\ ∀ a ∈ t, h.objs.size <= a
  keep : ∀ b o, b ∉ H.ρ -> b ∉ H.fr -> h.get? b = some o -> h'.get? b = some o
  keepF : ∀ b o, b ∈ H.fr -> b ∉ X -> h.get? b = some o -> ∃ sl, h'.get? b = some { o with slots := sl } /\ (plainO o = true -> sl = o.slots)
  size : h.objs.size <= h'.objs.size
section
variable {P : Params} {H H' H'' : Hid} {h h' h'' : Heap} {X Y : List Addr}
theorem Ext.refl : Ext X H h H h := ⟨rfl, ⟨[], by simp, by simp⟩, fun _ _ _ _ e => e, fun _ o _ _ e => ⟨o.slots, e, fun _ => rfl⟩, Nat.le_refl _⟩
theorem Ext.notin (x : Ext X H h H' h') {b : Addr} (hb : b ∉ H.ρ) (hl : b < h.objs.size) : b ∉ H'.ρ := by
  refine ob12 x.pre fun t e ht => ?_
  rw [e]
  intro hm
  rcases List.mem_append.mp hm with q | q
  · exact hb q
  · exact absurd hl (Nat.not_lt.mpr (ht b q))
theorem Ext.trans (x : Ext X H h H' h') (y : Ext X H' h' H'' h'') : Ext X H h H'' h'' := by
  refine ⟨y.fr.trans x.fr, ?_, fun b o h1 h2 e => ?_, fun b o h2 h3 e => ?_, Nat.le_trans x.size y.size⟩
  · refine ob12 x.pre fun t e ht => ?_
    refine ob12 y.pre fun u e' hu => ?_
    refine mk12 (t ++ u) (by rw [e', e, List.append_assoc]) (fun a ha => ?_)
    rcases List.mem_append.mp ha with q | q
    · exact ht a q
    · exact Nat.le_trans x.size (hu a q)
  · exact y.keep b o (x.notin h1 (Heap.lt_size e)) (by rw [x.fr]; exact h2) (x.keep b o h1 h2 e)
  · refine ob12 (x.keepF b o h2 h3 e) fun sl e' q => ?_
    refine ob12 (y.keepF b _ (by rw [x.fr]; exact h2) h3 e') fun sl' e'' q' => ?_
    exact mk12 sl' e'' (fun p => (q' p).trans (q p))
theorem Ext.mono (x : Ext X H h H' h') (hs : ∀ b ∈ X, b ∈ Y) : Ext Y H h H' h' :=
  ⟨x.fr, x.pre, x.keep, fun b o h2 h3 e => x.keepF b o h2 (fun q => h3 (hs b q)) e, x.size⟩
theorem Ext.weaken (x : Ext [] H h H' h') : Ext X H h H' h' := x.mono (by simp)
theorem Ext.trans0 (x : Ext X H h H' h') (y : Ext [] H' h' H'' h'') : Ext X H h H'' h'' := x.trans y.weaken
theorem Ext.of_keeps (k : ∀ b o, h.get? b = some o -> h'.get? b = some o) (hs : h.objs.size <= h'.objs.size) : Ext X H h H h' :=
  ⟨rfl, ⟨[], by simp, by simp⟩, fun b o _ _ e => k b o e, fun b o _ _ e => mk12 o.slots (k b o e) (fun _ => rfl), hs⟩
theorem size_push_le (h : Heap) (o : Obj) : h.objs.size <= (h.push o).objs.size := by rw [Heap.size_push]; lia
theorem Ext.push (o : Obj) : Ext X H h H (h.push o) := Ext.of_keeps (fun _ _ e => Heap.get?_push_of_some o e) (size_push_le h o)
theorem Ext.around {h₀ : Heap} {ns : List Addr} (k : ∀ b o, h₀.get? b = some o -> h.get? b = some o) (hs : h₀.objs.size <= h.objs.size) (hn : ∀ b ∈ ns, h₀.objs.size <= b) (hX : ∀ b ∈ X, b ∈ ns \/ b ∈ Y)
    (x : Ext X ⟨H.ρ, ns ++ H.fr⟩ h H' h') : Ext Y H h₀ ⟨H'.ρ, H.fr⟩ h' := by
  refine ⟨rfl, ?_, fun b o h1 h2 e => x.keep b o h1 ?_ (k b o e), fun b o h2 h3 e => x.keepF b o (List.mem_append_right _ h2) ?_ (k b o e), Nat.le_trans hs x.size⟩
  · refine ob12 x.pre fun t e ht => ?_
    exact mk12 t e (fun a ha => Nat.le_trans hs (ht a ha))
  · intro q
    rcases List.mem_append.mp q with q | q
    · exact absurd (Heap.lt_size e) (Nat.not_lt.mpr (hn b q))
    · exact h2 q
  · intro q
    rcases hX b q with q | q
    · exact absurd (Heap.lt_size e) (Nat.not_lt.mpr (hn b q))
    · exact h3 q
theorem Rd.ext (hk : ∀ b o, b ∉ H.ρ -> b ∉ H.fr -> h.get? b = some o -> (b ∉ H'.ρ /\ b ∉ H'.fr /\ h'.get? b = some o)) (hp : ∀ (n : Nat) (a : Addr), H.ρ[n]? = some a -> H'.ρ[n]? = some a)
    {v : Value} {d : D} (r : Rd P H h v d) : Rd P H' h' v d :=
  Rd.rec (motive_1 := fun v d _ => Rd P H' h' v d) (motive_2 := fun v d _ => RdAll P H' h' v d) (motive_3 := fun v d _ => RdEnts P H' h' v d) .none .bool .int .str
    (fun a b c s _ q => .tuple (hk _ _ a b c).1 (hk _ _ a b c).2.1 (hk _ _ a b c).2.2 s q) (fun a b c s _ q => .list (hk _ _ a b c).1 (hk _ _ a b c).2.1 (hk _ _ a b c).2.2 s q)
    (fun a b c s n _ m q => .dict (hk _ _ a b c).1 (hk _ _ a b c).2.1 (hk _ _ a b c).2.2 s n q m) (fun a b c => .range (hk _ _ a b c).1 (hk _ _ a b c).2.1 (hk _ _ a b c).2.2)
    (fun e => .loc (hp _ _ e)) .nil (fun _ _ a r => .cons a r) .nil (fun a o l b _ _ c r => .cons a o l b c r) r
theorem RdAll.ind {M : List Value -> List D -> Prop} (n : M [] []) (c : ∀ {v vs d ds}, Rd P H h v d -> RdAll P H h vs ds -> M vs ds -> M (v :: vs) (d :: ds)) {vs : List Value} {ds : List D} (r : RdAll P H h vs ds) : M vs ds :=
  RdAll.rec (motive_1 := fun _ _ _ => True) (motive_2 := fun v d _ => M v d) (motive_3 := fun _ _ _ => True) trivial (fun _ => trivial) (fun _ _ => trivial) (fun _ _ _ _ => trivial) (fun _ _ _ _ _ _ => trivial) (fun _ _ _ _ _ _ => trivial)
    (fun _ _ _ _ _ _ _ _ => trivial) (fun _ _ _ => trivial) (fun _ => trivial) n (fun a r _ q => c a r q) trivial (fun _ _ _ _ _ _ _ _ => trivial) r
theorem RdEnts.ind {M : List DictEntry -> List (Str × D) -> Prop} (n : M [] []) (c : ∀ {e r x t d kvs}, e.key = .str x t -> PyData.strOk x = true -> x.length <= sizeLine -> e.hash = PyData.keyHash P x -> Rd P H h e.val d -> M r kvs -> M (e :: r) ((x, d) :: kvs))
    {vs : List DictEntry} {ds : List (Str × D)} (r : RdEnts P H h vs ds) : M vs ds :=
  RdEnts.rec (motive_1 := fun _ _ _ => True) (motive_2 := fun _ _ _ => True) (motive_3 := fun v d _ => M v d) trivial (fun _ => trivial) (fun _ _ => trivial) (fun _ _ _ _ => trivial) (fun _ _ _ _ _ _ => trivial) (fun _ _ _ _ _ _ => trivial)
    (fun _ _ _ _ _ _ _ _ => trivial) (fun _ _ _ => trivial) (fun _ => trivial) trivial (fun _ _ _ _ => trivial) n (fun a o l b e _ _ q => c a o l b e q) r
theorem RdAll.ext (hk : ∀ b o, b ∉ H.ρ -> b ∉ H.fr -> h.get? b = some o -> (b ∉ H'.ρ /\ b ∉ H'.fr /\ h'.get? b = some o)) (hp : ∀ (n : Nat) (a : Addr), H.ρ[n]? = some a -> H'.ρ[n]? = some a)
    {v : List Value} {d : List D} (r : RdAll P H h v d) : RdAll P H' h' v d := RdAll.ind .nil (fun a _ q => .cons (Rd.ext hk hp a) q) r
theorem RdEnts.ext (hk : ∀ b o, b ∉ H.ρ -> b ∉ H.fr -> h.get? b = some o -> (b ∉ H'.ρ /\ b ∉ H'.fr /\ h'.get? b = some o)) (hp : ∀ (n : Nat) (a : Addr), H.ρ[n]? = some a -> H'.ρ[n]? = some a)
    {v : List DictEntry} {d : List (Str × D)} (r : RdEnts P H h v d) : RdEnts P H' h' v d := RdEnts.ind .nil (fun a o l b c q => .cons a o l b (Rd.ext hk hp c) q) r
theorem prefix_get {α : Type} {l l' t : List α} (e : l' = l ++ t) {n : Nat} {a : α} (h : l[n]? = some a) : l'[n]? = some a := by
  subst e
  rw [List.getElem?_append_left]
  · exact h
  · exact (List.getElem?_eq_some_iff.mp h).1
theorem Ext.hk (x : Ext X H h H' h') : ∀ b o, b ∉ H.ρ -> b ∉ H.fr -> h.get? b = some o -> (b ∉ H'.ρ /\ b ∉ H'.fr /\ h'.get? b = some o) :=
  fun b o h1 h2 e => ⟨x.notin h1 (Heap.lt_size e), by rw [x.fr]; exact h2, x.keep b o h1 h2 e⟩
theorem Ext.hp (x : Ext X H h H' h') : ∀ (n : Nat) (a : Addr), H.ρ[n]? = some a -> H'.ρ[n]? = some a := fun _ _ e => let ⟨_, q, _⟩ := x.pre; prefix_get q e
theorem Rd.step (x : Ext X H h H' h') {v : Value} {d : D} (r : Rd P H h v d) : Rd P H' h' v d := Rd.ext x.hk x.hp r
theorem RdAll.step (x : Ext X H h H' h') {v : List Value} {d : List D} (r : RdAll P H h v d) : RdAll P H' h' v d := RdAll.ext x.hk x.hp r
theorem RdEnts.step (x : Ext X H h H' h') {v : List DictEntry} {d : List (Str × D)} (r : RdEnts P H h v d) : RdEnts P H' h' v d := RdEnts.ext x.hk x.hp r
theorem Rd.less {fr : List Addr} (hf : ∀ b ∈ fr, b ∈ H.fr) {v : Value} {d : D} (r : Rd P H h v d) : Rd P ⟨H.ρ, fr⟩ h v d :=
  Rd.ext (H := H) (H' := ⟨H.ρ, fr⟩) (fun _ _ h1 h2 e => ⟨h1, fun q => h2 (hf _ q), e⟩) (fun _ _ e => e) r
theorem RdAll.less {fr : List Addr} (hf : ∀ b ∈ fr, b ∈ H.fr) {v : List Value} {d : List D} (r : RdAll P H h v d) : RdAll P ⟨H.ρ, fr⟩ h v d :=
  RdAll.ext (H := H) (H' := ⟨H.ρ, fr⟩) (fun _ _ h1 h2 e => ⟨h1, fun q => h2 (hf _ q), e⟩) (fun _ _ e => e) r
theorem Rd.more {fr : List Addr} (k : ∀ b o, h.get? b = some o -> h'.get? b = some o) (hf : ∀ b ∈ fr, b ∈ H.fr \/ h.objs.size <= b) {v : Value} {d : D} (r : Rd P H h v d) : Rd P ⟨H.ρ, fr⟩ h' v d :=
  Rd.ext (H := H) (H' := ⟨H.ρ, fr⟩) (fun b _ h1 h2 e => ⟨h1, fun q => (hf b q).elim h2 fun r => absurd (Heap.lt_size e) (Nat.not_lt.mpr r), k _ _ e⟩) (fun _ _ e => e) r
theorem RdAll.more {fr : List Addr} (k : ∀ b o, h.get? b = some o -> h'.get? b = some o) (hf : ∀ b ∈ fr, b ∈ H.fr \/ h.objs.size <= b) {v : List Value} {d : List D} (r : RdAll P H h v d) : RdAll P ⟨H.ρ, fr⟩ h' v d :=
  RdAll.ext (H := H) (H' := ⟨H.ρ, fr⟩) (fun b _ h1 h2 e => ⟨h1, fun q => (hf b q).elim h2 fun r => absurd (Heap.lt_size e) (Nat.not_lt.mpr r), k _ _ e⟩) (fun _ _ e => e) r
theorem RdAll.length {vs : List Value} {ds : List D} (r : RdAll P H h vs ds) : vs.length = ds.length := by
  induction ds generalizing vs with
  | nil => cases r; rfl
  | cons d ds ih => cases r with | cons a b => simp [ih b]
theorem RdAll.append {vs ws : List Value} {ds es : List D} (r : RdAll P H h vs ds) (q : RdAll P H h ws es) : RdAll P H h (vs ++ ws) (ds ++ es) := by
  induction ds generalizing vs with
  | nil => cases r; exact q
  | cons d ds ih => cases r with | cons a b => exact .cons a (ih b)
theorem RdAll.get {vs : List Value} {ds : List D} (r : RdAll P H h vs ds) {n : Nat} {d : D} (hd : ds[n]? = some d) : ∃ v, vs[n]? = some v /\ Rd P H h v d := by
  induction ds generalizing vs n with
  | nil => simp at hd
  | cons e ds ih =>
    cases r with
    | cons a b =>
      cases n with
      | zero => simp at hd; subst hd; exact mk12 _ rfl a
      | succ n => simpa using ih b (by simpa using hd)
theorem RdAll.drop {vs : List Value} {ds : List D} (r : RdAll P H h vs ds) (n : Nat) : RdAll P H h (vs.drop n) (ds.drop n) := by
  induction n generalizing vs ds with
  | zero => exact r
  | succ n ih => cases r with
    | nil => simpa using RdAll.nil
    | cons a b => simpa using ih b
theorem RdAll.take {vs : List Value} {ds : List D} (r : RdAll P H h vs ds) (n : Nat) : RdAll P H h (vs.take n) (ds.take n) := by
  induction n generalizing vs ds with
  | zero => simpa using RdAll.nil
  | succ n ih => cases r with
    | nil => simpa using RdAll.nil
    | cons a b => simpa using .cons a (ih b)
end
end Mine
end

section
namespace Mine
open PySem
section
variable {prog : Program} {w : World}
mutual
noncomputable def Kd.hash (prog : Program) (w : World) : Kd -> Int
  | .none => 0
  | .int i => (intKind prog w).hash i
  | .str x => (strKind prog w).hash x
  | .tup l => reduceHash (Builtin.Tuple.tupleHashOf (Kd.hashes prog w l))
noncomputable def Kd.hashes (prog : Program) (w : World) : List Kd -> List Int
  | [] => []
  | k :: l => k.hash prog w :: Kd.hashes prog w l
end
mutual
noncomputable def Kd.draws : Kd -> Nat
  | .tup l => Kd.drawsL l + 1
  | _ => 1
noncomputable def Kd.drawsL : List Kd -> Nat
  | [] => 0
  | k :: l => k.draws + Kd.drawsL l
end
mutual
inductive IsKd (h : Heap) : Kd -> Value -> Prop
  | int (i t) : IsKd h (.int i) (.int i t)
  | str (x t) : PyData.strOk x = true -> IsKd h (.str x) (.str x t)
  | tup {a vs n l} : h.get? a = some (tupO vs n) -> IsKds h l vs.toList -> IsKd h (.tup l) (.ref a)
inductive IsKds (h : Heap) : List Kd -> List Value -> Prop
  | nil : IsKds h [] []
  | cons {k v l vs} : IsKd h k v -> IsKds h l vs -> IsKds h (k :: l) (v :: vs)
end
theorem hashes_app (a b : List Kd) : Kd.hashes prog w (a ++ b) = Kd.hashes prog w a ++ Kd.hashes prog w b := by
  induction a with
  | nil => rfl
  | cons k l ih => show _ :: Kd.hashes prog w (l ++ b) = _; rw [ih]; rfl
theorem draws_app (a b : List Kd) : Kd.drawsL (a ++ b) = Kd.drawsL a + Kd.drawsL b := by
  induction a with
  | nil => show Kd.drawsL b = 0 + _; rw [Nat.zero_add]
  | cons k l ih => show k.draws + Kd.drawsL (l ++ b) = k.draws + Kd.drawsL l + _; rw [ih, Nat.add_assoc]
theorem deps_mem {k : Kd} {l : List Kd} (h : k ∈ l) : k.dep <= Kd.deps l := by
  induction l with
  | nil => cases h
  | cons a l ih =>
    show _ <= max a.dep (Kd.deps l)
    rcases List.mem_cons.mp h with e | e
    · rw [e]; exact Nat.le_max_left _ _
    · exact Nat.le_trans (ih e) (Nat.le_max_right _ _)
theorem kd_hash : ∀ (n : Nat) (k : Kd) {A : Around} {E : Value -> Shared -> Prop} {s : Shared} {v : Value} {Q : Int -> Shared -> Prop}, k.dep <= n -> A.units + k.dep < cLine -> IsKd s.heap k v ->
    Q (k.hash prog w) { s with toks := s.toks + k.draws } -> wpAny (model prog w) A (pyHash v) Q E s := by
  intro n
  induction n with
  | zero =>
    intro k A E s v Q hd hu hk h
    cases hk with
    | int i t => exact (intKind prog w).pyHash (k := i) (show Value.isInt i (.int i t) = true from by simp [Value.isInt]) h
    | str x t _ => exact (strKind prog w).pyHash (k := x) (show Value.isStrOf x (.str x t) = true from by simp [Value.isStrOf]) h
    | tup e r => exact absurd hd (Nat.not_succ_le_zero _)
  | succ n ih =>
    intro k A E s v Q hd hu hk h
    cases hk with
    | int i t => exact (intKind prog w).pyHash (k := i) (show Value.isInt i (.int i t) = true from by simp [Value.isInt]) h
    | str x t _ => exact (strKind prog w).pyHash (k := x) (show Value.isStrOf x (.str x t) = true from by simp [Value.isStrOf]) h
    | @tup a items m l ho hi =>
      have hT : s.TypeIs (.ref a) "tuple" := mk12 _ ho rfl
      have hd' : Kd.deps l <= n := Nat.le_of_succ_le_succ hd
      have hu' : A.units + (Kd.deps l + 1) < cLine := hu
      unfold pyHash
      first | unfold pyHashByItsType | skip
      first | refine wpAny_bind (wpAny_cRoomFor_or (.inr (by lia)) ?_) | skip
      refine wpAny_bind (wpAny_specialOf hT F.slot_tuple_hash.lookup ?_)
      show wpAny _ _ (if (some (Value.builtin "tuple.__hash__") == some Value.none) = true then _ else _) Q E s
      rw [if_neg (by rw [beq_builtin_none]; exact Bool.false_ne_true)]
      refine wpAny_bind (wpAny_specialOf hT F.slot_tuple_hash.lookup ?_)
      show wpAny _ _ (callSpecialIfBoundUnlessNone? (.ref a) "__hash__" _ >>= _) Q E s
      refine wpAny_bind (wpAny_callSpecialIfBoundUnlessNone?_slot hT F.slot_tuple_hash (wpAny_call_entry F.slot_tuple_hash hT F.entry_tuple_hash ?_ (F.args_tuple_hash_1 _)))
      show wpAny _ _ (Builtin.Tuple.tupleItemsOf (.ref a) >>= _) _ _ s
      refine wpAny_bind (wpAny_tupleItemsOf ho rfl ?_)
      refine wpAny_bind ?_
      rw [<- Array.forIn_toList]
      refine wpAny_forIn_list _
        (fun rest (b : Array Int) s' => ∃ done left, l = done ++ left /\ IsKds s.heap left rest /\ b.toList = Kd.hashes prog w done /\ s' = { s with toks := s.toks + Kd.drawsL done })
        _ ?_ ?_ _ _ ⟨[], l, rfl, hi, rfl, rfl⟩
      · rintro x rest b s' ⟨done, left, rfl, hl, hb, rfl⟩
        cases hl with
        | @cons k _ ks' _ h1 hl' =>
          have hm : k.dep <= Kd.deps (done ++ k :: ks') := deps_mem (by simp)
          refine wpAny_bind (ih k (A := A.in1) (Nat.le_trans hm hd') (by show A.units + 1 + k.dep < cLine; lia) h1 ?_)
          have hb' : (b.push (k.hash prog w)).toList = Kd.hashes prog w (done ++ [k]) := by
            rw [hashes_app, Array.toList_push, hb]; rfl
          have ht : s.toks + Kd.drawsL done + k.draws = s.toks + Kd.drawsL (done ++ [k]) := by
            rw [draws_app, Nat.add_assoc]; rfl
          first
            | exact wpAny_pure ⟨done ++ [k], ks', by simp, hl', hb', by rw [<- ht]⟩
            | exact wpAny_bind (wpAny_pure (wpAny_pure ⟨done ++ [k], ks', by simp, hl', hb', by rw [<- ht]⟩))
      · rintro b s' ⟨done, left, rfl, hl, hb, rfl⟩
        cases hl
        rw [List.append_nil] at h
        show wpAny _ _ (retInt (Builtin.Tuple.tupleHashOf b.toList)) _ _ _
        rw [hb]
        refine wpAny_ret_mkInt ?_
        show wpAny _ _ (if (decide (-(2 : Int) ^ 63 <= Builtin.Tuple.tupleHashOf (Kd.hashes prog w done)) && decide (Builtin.Tuple.tupleHashOf (Kd.hashes prog w done) < 2 ^ 63)) = true then _ else _) Q E _
        have h' : Q (reduceHash (Builtin.Tuple.tupleHashOf (Kd.hashes prog w done))) { s with toks := s.toks + (Kd.drawsL done + 1) } := h
        unfold reduceHash at h'
        by_cases hr : (decide (-(2 : Int) ^ 63 <= Builtin.Tuple.tupleHashOf (Kd.hashes prog w done)) && decide (Builtin.Tuple.tupleHashOf (Kd.hashes prog w done) < 2 ^ 63)) = true
        · rw [if_pos hr]
          rw [if_pos hr] at h'
          exact wpAny_pure (by simpa [Nat.add_assoc] using h')
        · rw [if_neg hr]
          rw [if_neg hr] at h'
          exact wpAny_bind (wpAny_rule (wpAny_pure (by simpa [Nat.add_assoc] using h')))
theorem kd_quiet : ∀ (n : Nat) (k : Kd) {A : Around} {E : Value -> Shared -> Prop} {s : Shared} {v : Value} {Q : Bool -> Shared -> Prop}, k.dep <= n -> IsKd s.heap k v -> Q true s -> wpAny (model prog w) A (eqIsQuiet n v) Q E s := by
  intro n
  induction n with
  | zero =>
    intro k A E s v Q hd hk h
    cases hk with
    | int i t => rw [eqIsQuiet_byValue _ rfl]; exact wpAny_pure h
    | str x t _ => rw [eqIsQuiet_byValue _ rfl]; exact wpAny_pure h
    | tup e r => exact absurd hd (Nat.not_succ_le_zero _)
  | succ n ih =>
    intro k A E s v Q hd hk h
    cases hk with
    | int i t => rw [eqIsQuiet_byValue _ rfl]; exact wpAny_pure h
    | str x t _ => rw [eqIsQuiet_byValue _ rfl]; exact wpAny_pure h
    | @tup a items m l ho hi =>
      have hT : s.TypeIs (.ref a) "tuple" := mk12 _ ho rfl
      have hd' : Kd.deps l <= n := Nat.le_of_succ_le_succ hd
      unfold eqIsQuiet
      refine wpAny_bind (wpAny_specialOf hT F.slot_tuple_eq.lookup ?_)
      show wpAny _ _ (isInstance (.ref a) (.type "tuple") >>= _) _ _ s
      refine wpAny_bind (wpAny_isInstance hT isSubtype_tuple_tuple ?_)
      simp only [Bool.not_true, Bool.false_eq_true, if_false]
      refine wpAny_bind (wpAny_seqItems ho rfl ?_)
      refine wpAny_bind ?_
      show wpAny _ _ (forIn items _ _) _ _ s
      rw [<- Array.forIn_toList]
      refine wpAny_forIn_list _ (fun rest r s' => r.1 = none /\ s' = s /\ ∃ left, (∀ k ∈ left, k.dep <= n) /\ IsKds s.heap left rest) _ ?_ ?_ _ _ ⟨rfl, rfl, l, fun k hk => Nat.le_trans (deps_mem hk) hd', hi⟩
      · rintro v rest r s' ⟨hr, rfl, left, hdl, hl⟩
        cases hl with
        | @cons k _ ks' _ h1 hl' =>
          refine wpAny_bind (ih k (hdl k (List.mem_cons_self ..)) h1 ?_)
          simp only [Bool.not_true, Bool.false_eq_true, if_false]
          exact wpAny_pure ⟨rfl, rfl, ks', fun k hk => hdl k (List.mem_cons_of_mem _ hk), hl'⟩
      · rintro ⟨r1, r2⟩ s' ⟨hr, rfl, _⟩
        simp only at hr
        subst hr
        exact wpAny_pure h
theorem IsKd.inj {h : Heap} {x y : Kd} {v : Value} (a : IsKd h x v) (b : IsKd h y v) : x = y :=
  IsKd.rec (motive_1 := fun x v _ => ∀ y, IsKd h y v -> x = y) (motive_2 := fun x v _ => ∀ y, IsKds h y v -> x = y) (fun _ _ _ b => by cases b; rfl) (fun _ _ _ _ b => by cases b; rfl)
    (fun e _ q _ b => by cases b with | tup e' r' => rw [e] at e'; cases e'; rw [q _ r']) (fun _ b => by cases b; rfl) (fun _ _ q q' _ b => by cases b with | cons c r => rw [q _ c, q' _ r]) a y b
theorem IsKd.keeps {h h' : Heap} {d : Addr} {o : Obj} {es : Array DictEntry} {ep : Nat} (ho : h.get? d = some o) (hd : o.data = .dict es ep) (hs : Heap.SameBut d h h') {k : Kd} {v : Value} (i : IsKd h k v) : IsKd h' k v :=
  IsKd.rec (motive_1 := fun x v _ => IsKd h' x v) (motive_2 := fun x v _ => IsKds h' x v) .int .str
    (fun e _ q => .tup ((hs.2 _ (fun q => by rw [q, ho] at e; rw [Option.some.inj e] at hd; cases hd)).trans e) q) .nil (fun _ _ q q' => .cons q q') i
mutual
noncomputable def Kd.py : Kd -> PyData
  | .none => .none
  | .int i => .int i
  | .str x => .str x
  | .tup l => .tuple (Kd.pys l)
noncomputable def Kd.pys : List Kd -> List PyData
  | [] => []
  | k :: l => k.py :: Kd.pys l
end
mutual
theorem IsKd.reads {h : Heap} : ∀ {k : Kd} {v : Value}, IsKd h k v -> (∃ as, Reads h v k.py as) /\ k.py.canLay0 = true
  | _, _, .int i t => ⟨⟨_, .int i t⟩, rfl⟩
  | _, _, .str x t o => ⟨⟨_, .str x t⟩, o⟩
  | _, _, .tup e r => let ⟨⟨_, q⟩, k⟩ := IsKds.reads r; ⟨⟨_, .tuple e rfl rfl q⟩, k⟩
theorem IsKds.reads {h : Heap} : ∀ {k : List Kd} {v : List Value}, IsKds h k v -> (∃ as, ReadsAll h v (Kd.pys k) as) /\ PyData.canLayAll0 (Kd.pys k) = true
  | _, _, .nil => ⟨⟨_, .nil⟩, rfl⟩
  | _, _, .cons a r => let ⟨⟨_, q⟩, k⟩ := IsKd.reads a; let ⟨⟨_, q'⟩, k'⟩ := IsKds.reads r; ⟨⟨_, .cons q q'⟩, Bool.and_eq_true_iff.mpr ⟨k, k'⟩⟩
end
mutual
theorem kd_depth : ∀ k : Kd, k.py.depth = k.dep
  | .none => rfl
  | .int _ => rfl
  | .str _ => rfl
  | .tup l => by show PyData.depthAll (Kd.pys l) + 1 = Kd.deps l + 1; rw [kds_depth l]
theorem kds_depth : ∀ l : List Kd, PyData.depthAll (Kd.pys l) = Kd.deps l
  | [] => rfl
  | k :: l => by show max k.py.depth (PyData.depthAll (Kd.pys l)) = max k.dep (Kd.deps l); rw [kd_depth k, kds_depth l]
end
open Classical in
mutual
theorem kd_eqv : ∀ a b : Kd, PyData.eqv a.py b.py = decide (a = b)
  | .none, .none => by show true = _; simp
  | .none, .int _ => by simp [Kd.py, PyData.eqv]
  | .none, .str _ => by simp [Kd.py, PyData.eqv]
  | .none, .tup _ => by simp [Kd.py, PyData.eqv]
  | .int _, .none => by simp [Kd.py, PyData.eqv]
  | .str _, .none => by simp [Kd.py, PyData.eqv]
  | .tup _, .none => by simp [Kd.py, PyData.eqv]
  | .int i, .int j => by show (i == j) = _; rw [Bool.eq_iff_iff]; simp; exact ⟨fun h => by rw [h], fun h => by cases h; rfl⟩
  | .int _, .str _ => by simp [Kd.py, PyData.eqv]
  | .int _, .tup _ => by simp [Kd.py, PyData.eqv]
  | .str _, .int _ => by simp [Kd.py, PyData.eqv]
  | .str x, .str y => by show (x == y) = _; rw [Bool.eq_iff_iff]; simp; exact ⟨fun h => by rw [h], fun h => by cases h; rfl⟩
  | .str _, .tup _ => by simp [Kd.py, PyData.eqv]
  | .tup _, .int _ => by simp [Kd.py, PyData.eqv]
  | .tup _, .str _ => by simp [Kd.py, PyData.eqv]
  | .tup l, .tup m => by show PyData.eqvAll (Kd.pys l) (Kd.pys m) = _; rw [kds_eqv l m, Bool.eq_iff_iff]; simp; exact ⟨fun h => by rw [h], fun h => by cases h; rfl⟩
theorem kds_eqv : ∀ a b : List Kd, PyData.eqvAll (Kd.pys a) (Kd.pys b) = decide (a = b)
  | [], [] => rfl
  | [], _ :: _ => by show false = _; simp
  | _ :: _, [] => by show false = _; simp
  | a :: l, b :: m => by
    show (PyData.eqv a.py b.py && PyData.eqvAll (Kd.pys l) (Kd.pys m)) = _
    rw [kd_eqv a b, kds_eqv l m, Bool.eq_iff_iff]; simp
end
open Classical in
noncomputable def kdKind (prog : Program) (w : World) : HeapKind prog w Kd where
  is h k a := IsKd h k (.ref a) /\ k.dep <= 8
  hash k := k.hash prog w
  draws k := k.draws
  room A := A.units + 8 < cLine
  inj x y := x.1.inj y.1
  keeps x ho hd hs := ⟨x.1.keeps ho hd hs, x.2⟩
  pyHash hu hk h := kd_hash 8 _ hk.2 (Nat.lt_of_le_of_lt (Nat.add_le_add_left hk.2 _) hu) hk.1 h
  eqBool {A E s x y a b Q} hu hx hy h := by
    obtain ⟨⟨as, ra⟩, ca⟩ := hx.1.reads
    obtain ⟨⟨bs, rb⟩, cb⟩ := hy.1.reads
    refine SeqAt.eqAt_reads x.py y.py A s _ _ as bs ra rb ca cb ?_ prog w E Q (by rw [kd_eqv]; exact h)
    refine Nat.lt_of_le_of_lt (Nat.add_le_add_left (Nat.le_trans (Nat.min_le_left _ _) ?_) _) hu
    rw [kd_depth]; exact hx.2
  quiet hk h := kd_quiet 8 _ hk.2 hk.1 h
noncomputable def isOI : Option Int -> Value -> Bool
  | none, .none => true
  | none, _ => false
  | some i, v => Value.isInt i v
theorem isOI_none {v : Value} (h : isOI none v = true) : v = .none := by
  unfold isOI at h
  split at h <;> first | rfl | cases h | skip
  all_goals simp_all
theorem isOI_some {i : Int} {v : Value} (h : isOI (some i) v = true) : ∃ t, v = .int i t := Value.isInt_shape h
noncomputable def oiHash : Option Int -> Int
  | none => reduceHash 0xFCA86420
  | some i => hashInt i
theorem hash_none {A : Around} {E : Value -> Shared -> Prop} {s : Shared} {Q : Int -> Shared -> Prop} (h : Q (reduceHash 0xFCA86420) { s with toks := s.toks + 1 }) : wpAny (model prog w) A (pyHash .none) Q E s := by
  have hT : s.TypeIs .none "NoneType" := rfl
  unfold pyHash
  first | unfold pyHashByItsType | skip
  refine wpAny_bind (wpAny_cRoomFor_or (.inl rfl) ?_)
  refine wpAny_bind (wpAny_specialOf hT F.slot_NoneType_hash.lookup ?_)
  show wpAny _ _ (if (some (Value.builtin "NoneType.__hash__") == some Value.none) = true then _ else _) Q E s
  rw [if_neg (by rw [beq_builtin_none]; exact Bool.false_ne_true)]
  refine wpAny_bind (wpAny_specialOf hT F.slot_NoneType_hash.lookup ?_)
  show wpAny _ _ (callSpecialIfBoundUnlessNone? .none "__hash__" _ >>= _) Q E s
  refine wpAny_bind (wpAny_callSpecialIfBoundUnlessNone?_slot hT F.slot_NoneType_hash (wpAny_call_entry F.slot_NoneType_hash hT F.entry_NoneType_hash (wpAny_bind (wpAny_pure (wpAny_bind (wpAny_mkInt (wpAny_pure ?_))))) (F.args_NoneType_hash_1 _)))
  refine mk12 _ rfl ?_
  show wpAny _ _ (if (decide (-(2 : Int) ^ 63 <= 0xFCA86420) && decide ((0xFCA86420 : Int) < 2 ^ 63)) = true then _ else _) Q E _
  unfold reduceHash at h
  by_cases hr : (decide (-(2 : Int) ^ 63 <= 0xFCA86420) && decide ((0xFCA86420 : Int) < 2 ^ 63)) = true
  · rw [if_pos hr]; rw [if_pos hr] at h; exact wpAny_pure h
  · rw [if_neg hr]; rw [if_neg hr] at h; exact wpAny_bind (wpAny_rule (wpAny_pure h))
noncomputable def oiKind (prog : Program) (w : World) : KeyKind prog w (Option Int) where
  is := isOI
  hash := oiHash
  inj v a b ha hb := by
    cases a with
    | none =>
      have := isOI_none ha
      subst this
      cases b with
      | none => rfl
      | some j => refine ob11 (isOI_some hb) fun _ q => ?_; cases q
    | some i =>
      refine ob11 (isOI_some ha) fun t er1 => ?_; subst er1
      cases b with
      | none => cases isOI_none hb
      | some j => refine ob11 (isOI_some hb) fun _ q => ?_; cases q; rfl
  byValue k v h := by
    cases k with
    | none => cases isOI_none h; rfl
    | some i => refine ob11 (isOI_some h) fun t er1 => ?_; subst er1; rfl
  pyHash {A E s k v Q} hv h := by
    cases k with
    | none => cases isOI_none hv; exact hash_none h
    | some i => refine ob11 (isOI_some hv) fun t er1 => ?_; subst er1; exact wpAny_pyHash_int h
  eqBool {A E s a b u v Q} hu hv h := by
    cases a with
    | none =>
      cases isOI_none hu
      cases b with
      | none => cases isOI_none hv; exact SeqAt.EqAt.same _ _ _ _ _ (by simpa using h)
      | some j => refine ob11 (isOI_some hv) fun t er1 => ?_; subst er1; exact SeqAt.EqAt.none_int j t _ _ _ _ (by simpa using h)
    | some i =>
      refine ob11 (isOI_some hu) fun t er1 => ?_; subst er1
      cases b with
      | none => cases isOI_none hv; exact SeqAt.EqAt.int_none i t _ _ _ _ (by simpa using h)
      | some j => refine ob11 (isOI_some hv) fun u er1 => ?_; subst er1; exact wpAny_eqBool_int (by
        have e : (i == j) = decide (some i = some j) := by rw [Bool.eq_iff_iff]; simp
        rw [e]; exact h)
  «strs» k x t v h := by
    cases k with
    | none => cases isOI_none h
    | some i => refine ob11 (isOI_some h) fun _ q => ?_; cases q
set_option tactic.hygienic true in
mutual
theorem rd_kd {P : Params} {H : Hid} {h : Heap} : ∀ {d : D} {v : Value} {k : Kd}, Rd P H h v d -> kdIn d = some k -> IsKd h k v
  | .int i, _, _, r, e => by cases r; cases e; exact .int _ _
  | .str x, _, _, r, e => by cases r with | str _ _ o _ => cases e; exact .str _ _ o
  | .tuple ds, _, _, r, e => by
    cases r with | tuple a b c s q =>
    have e' : (kdIns ds).map Kd.tup = some _ := e
    cases hk : kdIns ds with
    | none => rw [hk] at e'; cases e'
    | some ks => rw [hk] at e'; cases e'; exact .tup c (rds_kd q hk)
  | .none, _, _, _, e => by cases e
  | .bool _, _, _, _, e => by cases e
  | .list _, _, _, _, e => by cases e
  | .dict _, _, _, _, e => by cases e
  | .range _ _, _, _, _, e => by cases e
  | .loc _, _, _, _, e => by cases e
theorem rds_kd {P : Params} {H : Hid} {h : Heap} : ∀ {ds : List D} {vs : List Value} {ks : List Kd}, RdAll P H h vs ds -> kdIns ds = some ks -> IsKds h ks vs
  | [], _, _, r, e => by cases r; cases e; exact .nil
  | d :: ds, _, _, r, e => by
    cases r with | cons a b =>
    unfold kdIns at e
    split at e
    · rename_i k ks h1 h2; cases e; exact .cons (rd_kd a h1) (rds_kd b h2)
    · cases e
end
set_option tactic.hygienic true in
mutual
theorem kdIn_D : ∀ {d : D} {k : Kd}, kdIn d = some k -> kdD k = d
  | .int i, _, e => by cases e; rfl
  | .str x, _, e => by cases e; rfl
  | .tuple ds, _, e => by
    have e' : (kdIns ds).map Kd.tup = some _ := e
    cases hk : kdIns ds with
    | none => rw [hk] at e'; cases e'
    | some ks => rw [hk] at e'; cases e'; show D.tuple (kdDs ks) = _; rw [kdIns_D hk]
  | .none, _, e => by cases e
  | .bool _, _, e => by cases e
  | .list _, _, e => by cases e
  | .dict _, _, e => by cases e
  | .range _ _, _, e => by cases e
  | .loc _, _, e => by cases e
theorem kdIns_D : ∀ {ds : List D} {ks : List Kd}, kdIns ds = some ks -> kdDs ks = ds
  | [], _, e => by cases e; rfl
  | d :: ds, _, e => by
    unfold kdIns at e
    split at e
    · rename_i k ks h1 h2; cases e; show kdD k :: kdDs ks = _; rw [kdIn_D h1, kdIns_D h2]
    · cases e
end
theorem kdOf_D {d : D} {k : Kd} (h : kdOf d = some k) : kdD k = d := by
  unfold kdOf at h
  split at h
  · cases h; rfl
  · exact kdIn_D h
end
end Mine
end

section
namespace Mine
open PySem
noncomputable def FA (fs : List Env) (H : Hid) (h : Heap) : Prop :=
  ∀ env ∈ fs, env.scope.kind ≠ .module /\ ∃ L o, env.frame = some L /\ L ∈ H.fr /\ h.get? L = some o /\ plainO o = false
structure Glo where
  prog : Program
  w : World
  C : Cfg
  B : Shared
  mg : Str -> Option Value
  mb : Str -> Option Value
noncomputable abbrev Glo.P (G : Glo) : Params := G.w.params
noncomputable abbrev Glo.M (G : Glo) : Model := model G.prog G.w
noncomputable def TabH (P : Params) (H : Hid) (h : Heap) : List (Kd × Addr × Value) -> List (Kd × D) -> Prop
  | [], [] => True
  | x :: xs, p :: ps => (x.1 = p.1 /\ Rd P H h (.ref x.2.1) (kdD p.1) /\ Rd P H h x.2.2 p.2) /\ TabH P H h xs ps
  | _, _ => False
noncomputable def oiK : Option Int -> Kd
  | none => .none
  | some i => .int i
noncomputable def TabI (P : Params) (H : Hid) (h : Heap) : List (Option Int × Value) -> List (Kd × D) -> Prop
  | [], [] => True
  | x :: xs, p :: ps => (oiK x.1 = p.1 /\ Rd P H h x.2 p.2) /\ TabI P H h xs ps
  | _, _ => False
theorem TabH.ext {P : Params} {H H' : Hid} {h h' : Heap} (hk : ∀ b o, b ∉ H.ρ -> b ∉ H.fr -> h.get? b = some o -> (b ∉ H'.ρ /\ b ∉ H'.fr /\ h'.get? b = some o)) (hp : ∀ (n : Nat) (a : Addr), H.ρ[n]? = some a -> H'.ρ[n]? = some a) :
    ∀ {xs : List (Kd × Addr × Value)} {ps : List (Kd × D)}, TabH P H h xs ps -> TabH P H' h' xs ps
  | [], [], _ => trivial
  | _ :: _, _ :: _, ⟨⟨q1, q2, q3⟩, q4⟩ => ⟨⟨q1, q2.ext hk hp, q3.ext hk hp⟩, TabH.ext hk hp q4⟩
  | [], _ :: _, q => q.elim
  | _ :: _, [], q => q.elim
theorem TabI.ext {P : Params} {H H' : Hid} {h h' : Heap} (hk : ∀ b o, b ∉ H.ρ -> b ∉ H.fr -> h.get? b = some o -> (b ∉ H'.ρ /\ b ∉ H'.fr /\ h'.get? b = some o)) (hp : ∀ (n : Nat) (a : Addr), H.ρ[n]? = some a -> H'.ρ[n]? = some a) :
    ∀ {xs : List (Option Int × Value)} {ps : List (Kd × D)}, TabI P H h xs ps -> TabI P H' h' xs ps
  | [], [], _ => trivial
  | _ :: _, _ :: _, ⟨⟨q1, q3⟩, q4⟩ => ⟨⟨q1, q3.ext hk hp⟩, TabI.ext hk hp q4⟩
  | [], _ :: _, q => q.elim
  | _ :: _, [], q => q.elim
theorem isKd_ext {P : Params} {H H' : Hid} {h h' : Heap} (hk : ∀ b o, b ∉ H.ρ -> b ∉ H.fr -> h.get? b = some o -> (b ∉ H'.ρ /\ b ∉ H'.fr /\ h'.get? b = some o)) {k : Kd} {v : Value} (i : IsKd h k v) (r : Rd P H h v (kdD k)) : IsKd h' k v :=
  IsKd.rec (motive_1 := fun k v _ => Rd P H h v (kdD k) -> IsKd h' k v) (motive_2 := fun k v _ => RdAll P H h v (kdDs k) -> IsKds h' k v) (fun i t _ => .int i t) (fun x t o _ => .str x t o)
    (fun e _ q r => by cases r with | tuple n1 n2 c s w => rw [e] at c; cases c; exact .tup (hk _ _ n1 n2 e).2.2 (q w)) (fun _ => .nil) (fun _ _ q q' r => by cases r with | cons a b => exact .cons (q a) (q' b)) i r
theorem TabH.mem {P : Params} {H : Hid} {h : Heap} : ∀ {xs : List (Kd × Addr × Value)} {ps : List (Kd × D)}, TabH P H h xs ps -> ∀ x ∈ xs, Rd P H h (.ref x.2.1) (kdD x.1)
  | [], [], _, _, m => nomatch m
  | x :: _, p :: _, ⟨⟨q1, q2, q3⟩, q4⟩, y, m => by
    rcases List.mem_cons.mp m with e | m
    · rw [e, q1]; exact q2
    · exact TabH.mem q4 y m
  | [], _ :: _, q, _, _ => q.elim
  | _ :: _, [], q, _, _ => q.elim
open Classical in
theorem dictH_at {G : Program} {w : World} {h h' : Heap} {a : Addr} {xs : List (Kd × Addr × Value)} (q : h.DictOfH (kdKind G w) a xs) (hg : ∀ ob, h.get? a = some ob -> h'.get? a = some ob) (hi : ∀ x ∈ xs, IsKd h x.1 (.ref x.2.1) -> IsKd h' x.1 (.ref x.2.1)) : h'.DictOfH (kdKind G w) a xs := by
  refine ob36 q fun o es ep e1 e2 e3 e4 e5 e6 => ?_; clear q
  exact mk36 o es ep (hg _ e1) e2 e3 e4 (fun x m => ⟨hi x m (e5 x m).1, (e5 x m).2⟩) e6
theorem dictI_at {G : Program} {w : World} {h h' : Heap} {a : Addr} {xs : List (Option Int × Value)} (q : h.DictOf (oiKind G w) a xs) (hg : ∀ ob, h.get? a = some ob -> h'.get? a = some ob) : h'.DictOf (oiKind G w) a xs := by
  refine ob32 q fun o es ep e1 e2 => ?_; clear q
  exact mk32 o es ep (hg _ e1) e2
open Classical in
noncomputable def SAt (G : Glo) (H : Hid) (h : Heap) (a : Addr) : SObj -> Prop
  | .list ds => ∃ vs n, h.get? a = some (lstO vs n) /\ vs.size <= sizeLine /\ RdAll G.P H h vs.toList ds
  | .inst c dn => ∃ C dx o, G.mg c = some (.ref C) /\ H.ρ[dn]? = some dx /\ dx ≠ a /\ h.get? a = some o /\ o.cls = .ref C /\ o.dict = some dx /\ ∀ cd, o.data ≠ .cls cd
  | .ns fs => ∃ m, h.Ns1 a m /\ ∀ x, (∀ d, fs.lookup x = some d -> ∃ v, m x = some v /\ Rd G.P H h v d) /\ (fs.lookup x = none -> m x = none)
  | .tab hp kvs => a ≠ sysModules /\ (if hp then ∃ xs : List (Kd × Addr × Value), h.DictOfH (kdKind G.prog G.w) a xs /\ TabH G.P H h xs kvs
    else ∃ xs : List (Option Int × Value), h.DictOf (oiKind G.prog G.w) a xs /\ TabI G.P H h xs kvs)
theorem SAt.ext {G : Glo} {H H' : Hid} {h h' : Heap} {a : Addr} {o : SObj} (hk : ∀ b o, b ∉ H.ρ -> b ∉ H.fr -> h.get? b = some o -> (b ∉ H'.ρ /\ b ∉ H'.fr /\ h'.get? b = some o)) (hp : ∀ (n : Nat) (a : Addr), H.ρ[n]? = some a -> H'.ρ[n]? = some a)
    (hg : ∀ ob, h.get? a = some ob -> h'.get? a = some ob) (q : SAt G H h a o) : SAt G H' h' a o := by
  cases o with
  | list ds => refine ob23 q fun vs n q1 q2 q3 => ?_; clear q; exact mk23 vs n (hg _ q1) q2 (q3.ext hk hp)
  | inst c dn => refine ob35 q fun C dx o q1 q2 q3 q4 q5 => ?_; clear q; exact mk35 C dx o q1 (hp _ _ q2) q3 (hg _ q4) q5
  | ns fs => refine ob12 q fun m q1 q2 => ?_; clear q; exact mk12 m (q1.at hg) (fun x => ⟨fun d e => let ⟨v, r1, r2⟩ := (q2 x).1 d e; ⟨v, r1, r2.ext hk hp⟩, (q2 x).2⟩)
  | tab b kvs =>
    refine ob02 q fun n q => ?_
    refine ⟨n, ?_⟩
    cases b with
    | true => refine ob12 q fun xs q1 q2 => ?_; clear q; exact mk12 xs (dictH_at q1 hg fun x m i => isKd_ext hk i (q2.mem x m)) (q2.ext hk hp)
    | false => refine ob12 q fun xs q1 q2 => ?_; clear q; exact mk12 xs (dictI_at q1 hg) (q2.ext hk hp)
theorem SAt.step {G : Glo} {X : List Addr} {H H' : Hid} {h h' : Heap} {a : Addr} {o : SObj} (x : Ext X H h H' h') (hg : ∀ ob, h.get? a = some ob -> h'.get? a = some ob) (q : SAt G H h a o) : SAt G H' h' a o := q.ext x.hk x.hp hg
theorem SAt.live {G : Glo} {H : Hid} {h : Heap} {a : Addr} {o : SObj} (q : SAt G H h a o) : ∃ ob, h.get? a = some ob := by
  cases o with
  | list ds => refine ob22 q fun _ _ q _ => ?_; exact mk11 _ q
  | inst c dn => refine ob35 q fun _ _ _ _ _ _ q _ => ?_; exact mk11 _ q
  | ns fs => obtain ⟨_, ⟨o, _, _, q, _⟩, _⟩ := q; exact mk11 o q
  | tab b kvs =>
    refine ob02 q fun _ q => ?_
    cases b with
    | true => obtain ⟨_, ⟨o, _, _, q, _⟩, _⟩ := q; exact mk11 o q
    | false => obtain ⟨_, ⟨o, _, _, q, _⟩, _⟩ := q; exact mk11 o q
structure Inv (G : Glo) (fs : List Env) (H : Hid) (S : Store) (s : Shared) : Prop where
  stays : G.B.heap.StaysIn s.heap
  newS : ∀ a ∈ H.ρ, G.B.heap.get? a = none
  newF : ∀ a ∈ H.fr, G.B.heap.get? a = none
  off : ∀ a ∈ H.ρ, a ∉ H.fr
  liveF : ∀ a ∈ H.fr, ∃ o, s.heap.get? a = some o
  nodup : H.ρ.Nodup
  len : H.ρ.length = S.length
  objs : ∀ (n : Nat) (o : SObj), S[n]? = some o -> ∃ a, H.ρ[n]? = some a /\ SAt G H s.heap a o
  fa : FA fs H s.heap
  gens : s.gens = #[]
  os : s.os = G.B.os
noncomputable def PV (G : Glo) (fs : List Env) {α' α : Type} (R : Hid -> Heap -> α' -> α -> Prop) (H : Hid) (h : Heap) (r : Out α) (v : α') (s' : Shared) : Prop :=
  ∃ a S' H', r = .ok a S' /\ Ext [] H h H' s'.heap /\ Inv G fs H' S' s' /\ R H' s'.heap v a
noncomputable def NoE (_ : Value) (_ : Shared) : Prop := False
noncomputable def Wp (G : Glo) (fs : List Env) (A : Around) {α' α : Type} (R : Hid -> Heap -> α' -> α -> Prop) (H : Hid) (S : Store) (s : Shared) (t : Sem α') (m : EM α) : Prop :=
  m S ≠ .stuck -> wpAny G.M A t (PV G fs R H s.heap (m S)) NoE s
section
variable {G : Glo} {fs : List Env} {A : Around} {α' β' γ' α β γ : Type} {R : Hid -> Heap -> α' -> α -> Prop} {R' : Hid -> Heap -> β' -> β -> Prop} {H : Hid} {S : Store} {s : Shared}
theorem PV.trans {h : Heap} {H1 : Hid} {h1 : Heap} {r : Out β} {v : β'} {s' : Shared} (x : Ext [] H h H1 h1) (p : PV G fs R' H1 h1 r v s') : PV G fs R' H h r v s' := by
  refine ob33 p fun c S' H' a b d => ?_; clear p
  exact mk33 c S' H' a (x.trans b) d
theorem Wp.seq {t : Sem α'} {m : EM α} {f : α -> EM β} {T : α' -> Shared -> Prop} (h1 : Wp G fs A R H S s t m) (hne : bnd m f S ≠ .stuck)
    (h2 : ∀ v a H1 S1 s1, m S = .ok a S1 -> Ext [] H s.heap H1 s1.heap -> Inv G fs H1 S1 s1 -> R H1 s1.heap v a -> f a S1 ≠ .stuck -> bnd m f S = f a S1 -> T v s1) :
    wpAny G.M A t T NoE s := by
  have hm : m S ≠ .stuck := fun q => hne (by unfold bnd; rw [q])
  refine wpAny_mono (h1 hm) (fun v s1 p => ?_) fun e s1 p => ?_
  · refine ob34 p fun a S1 H1 e1 x i r => ?_; clear p
    have eb : bnd m f S = f a S1 := by unfold bnd; rw [e1]
    exact h2 v a H1 S1 s1 e1 x i r (eb ▸ hne) eb
  · exact p
theorem opt_inv {α β : Type} {S : Store} {o : Option α} {f : α -> EM β} (h : bnd (optM o) f S ≠ .stuck) : ∃ a, o = some a /\ bnd (optM o) f S = f a S /\ f a S ≠ .stuck := by
  cases o with
  | none => exact absurd rfl h
  | some a => exact mk13 a rfl rfl h
theorem Wp.stk {t : Sem α'} : Wp G fs A R H S s t (Mine.stk : EM α) := fun h => absurd rfl h
theorem Wp.stuck {t : Sem α'} {m : EM α} (e : m S = .stuck) : Wp G fs A R H S s t m := fun h => absurd e h
theorem FA.step {H' : Hid} {h h' : Heap} (x : FA fs H h) (hf : ∀ b ∈ H.fr, b ∈ H'.fr) (k : ∀ b o, b ∈ H.fr -> h.get? b = some o -> ∃ o', h'.get? b = some o' /\ (plainO o = false -> plainO o' = false)) : FA fs H' h' := by
  intro env he
  obtain ⟨a, L, o, b, c, d, e⟩ := x env he
  refine ob12 (k L o c d) fun o' d' e' => ?_
  exact ⟨a, L, o', b, hf L c, d', e' e⟩
theorem Inv.grow {h' : Heap} {tk : Nat} (i : Inv G fs H S s) (k : ∀ b o, s.heap.get? b = some o -> h'.get? b = some o) : Inv G fs H S { s with heap := h', toks := tk } where
  stays := fun b o e => k b o (i.stays b o e)
  newS := i.newS
  newF := i.newF
  off := i.off
  liveF := fun a q => let ⟨o, e⟩ := i.liveF a q; ⟨o, k a o e⟩
  nodup := i.nodup
  len := i.len
  objs := fun n o e => by
    refine ob12 (i.objs n o e) fun a e1 e2 => ?_
    exact mk12 a e1 (e2.ext (fun b o h1 h2 e => ⟨h1, h2, k b o e⟩) (fun _ _ e => e) fun ob q => k _ _ q)
  fa := i.fa.step (fun _ q => q) fun b o _ e => mk12 o (k b o e) (fun q => q)
  gens := i.gens
  os := i.os
theorem Inv.toks {tk : Nat} (i : Inv G fs H S s) : Inv G fs H S { s with toks := tk } := i.grow (h' := s.heap) (fun _ _ e => e)
theorem Inv.push {o : Obj} {tk : Nat} (i : Inv G fs H S s) : Inv G fs H S { s with heap := s.heap.push o, toks := tk } := i.grow (fun _ _ e => Heap.get?_push_of_some o e)
theorem Inv.push' {o : Obj} (i : Inv G fs H S s) : Inv G fs H S { s with heap := s.heap.push o } := i.push (tk := s.toks)
theorem Inv.liveS (i : Inv G fs H S s) {a : Addr} (ha : a ∈ H.ρ) : ∃ o, s.heap.get? a = some o := by
  obtain ⟨n, hn, e⟩ := List.mem_iff_getElem.mp ha
  have hS : n < S.length := by rw [<- i.len]; exact hn
  refine ob12 (i.objs n S[n] (by simp)) fun b e1 e2 => ?_
  have : b = a := by rw [List.getElem?_eq_getElem hn, e] at e1; exact (Option.some.inj e1).symm
  subst this
  exact e2.live
theorem Inv.ltS (i : Inv G fs H S s) {a : Addr} (ha : a ∈ H.ρ) : a < s.heap.objs.size := let ⟨_, e⟩ := i.liveS ha; Heap.lt_size e
theorem Inv.ltF (i : Inv G fs H S s) {a : Addr} (ha : a ∈ H.fr) : a < s.heap.objs.size := let ⟨_, e⟩ := i.liveF a ha; Heap.lt_size e
theorem Inv.freshS (i : Inv G fs H S s) : s.heap.objs.size ∉ H.ρ := fun q => Nat.lt_irrefl _ (i.ltS q)
theorem Inv.freshF (i : Inv G fs H S s) : s.heap.objs.size ∉ H.fr := fun q => Nat.lt_irrefl _ (i.ltF q)
end
structure EnvOk (G : Glo) (H : Hid) (h : Heap) (env : Env) (sc : Scope) (σ : Sg) : Prop where
  scope : env.scope = sc
  kind : sc.kind = .function
  glob : env.globals = mainGlobals
  bi : env.builtins = builtinsNs
  inF : env.locals ∈ H.fr
  ns : ∃ m, h.Ns env.locals m /\ ∀ x i d, slot sc.names x = some (i, .local) -> σ[i]? = some (some d) -> ∃ v, m x = some v /\ Rd G.P H h v d
  cells : ∀ x i, slot sc.names x = some (i, .cell) -> ∃ c, env.cells.lookup x = some c /\ c ∈ H.fr /\ c ≠ env.locals /\ ∃ v?, h.IsCell c v? /\ ∀ d, σ[i]? = some (some d) -> ∃ v, v? = some v /\ Rd G.P H h v d
  cin : ∀ p ∈ env.cells, p.2 ∈ H.fr
  inj : ∀ x y i j c, slot sc.names x = some (i, .cell) -> slot sc.names y = some (j, .cell) -> env.cells.lookup x = some c -> env.cells.lookup y = some c -> x = y
section
variable {G : Glo} {fs : List Env} {A : Around} {H H' : Hid} {S : Store} {s : Shared} {h h' : Heap} {env : Env} {sc : Scope} {σ : Sg}
theorem Ns.upto {m : Str -> Option Value} {L : Addr} (hn : h.Ns L m) (k : ∀ o, h.get? L = some o -> ∃ sl, h'.get? L = some { o with slots := sl }) : h'.Ns L m := by
  refine ob32 hn fun o es ep e r => ?_; clear hn
  refine ob11 (k o e) fun sl e' => ?_
  exact mk32 _ es ep e' r
theorem IsCell.upto {v : Option Value} {c : Addr} (hn : h.IsCell c v) (k : ∀ o, h.get? c = some o -> ∃ sl, h'.get? c = some { o with slots := sl }) : h'.IsCell c v := by
  refine ob12 hn fun o e r => ?_; clear hn
  refine ob11 (k o e) fun sl e' => ?_
  exact mk12 _ e' r
theorem EnvOk.step (x : EnvOk G H h env sc σ) (e : Ext [] H h H' h') : EnvOk G H' h' env sc σ where
  scope := x.scope
  kind := x.kind
  glob := x.glob
  bi := x.bi
  inF := by rw [e.fr]; exact x.inF
  ns := by
    refine ob12 x.ns fun m n r => ?_
    refine mk12 m (Ns.upto n fun o q => (e.keepF _ o x.inF (by simp) q).imp fun _ r => r.1) (fun y i d q1 q2 => ?_)
    refine ob12 (r y i d q1 q2) fun v q r' => ?_
    exact mk12 v q (r'.step e)
  cells := fun y i q => by
    obtain ⟨c, e1, e2, e3, v, e4, e5⟩ := x.cells y i q
    refine ⟨c, e1, by rw [e.fr]; exact e2, e3, v, IsCell.upto e4 fun o q => (e.keepF _ o e2 (by simp) q).imp fun _ r => r.1, fun d q => ?_⟩
    refine ob12 (e5 d q) fun u q1 q2 => ?_
    exact mk12 u q1 (q2.step e)
  cin := fun p hp => by rw [e.fr]; exact x.cin p hp
  inj := x.inj
set_option tactic.hygienic true in
theorem slot_lookup : ∀ {ns : List (Str × NameKind)} {x : Str} {i : Nat} {k : NameKind}, slot ns x = some (i, k) -> ns.lookup x = some k
  | [], _, _, _, h => by cases h
  | (y, k') :: r, x, i, k, h => by
    unfold slot at h
    rw [List.lookup_cons]
    split at h
    · rename_i q; rw [q]; cases h; rfl
    · rename_i q
      have q' : (x == y) = false := by simpa using q
      rw [q']
      split at h
      · rename_i j k'' q2; cases h; exact slot_lookup q2
      · cases h
set_option tactic.hygienic true in
theorem slot_inj : ∀ {ns : List (Str × NameKind)} {x y : Str} {i : Nat} {k k' : NameKind}, slot ns x = some (i, k) -> slot ns y = some (i, k') -> x = y
  | [], _, _, _, _, _, h, _ => by cases h
  | (z, k₀) :: r, x, y, i, k, k', h, g => by
    unfold slot at h g
    split at h
    · rename_i q
      cases h
      split at g
      · rename_i q2; rw [beq_iff_eq.mp q, beq_iff_eq.mp q2]
      · split at g
        · rename_i j _ _; cases g
        · cases g
    · split at h
      · rename_i j k'' q2
        cases h
        split at g
        · cases g
        · split at g
          · rename_i j' k3 q3; cases g; exact slot_inj q2 q3
          · cases g
      · cases h
theorem EnvOk.kindOf (x : EnvOk G H h env sc σ) {y : Str} {i : Nat} {k : NameKind} (e : slot sc.names y = some (i, k)) : env.kindOf y = some k := by
  show env.scope.names.lookup y = some k
  rw [x.scope]; exact slot_lookup e
end
end Mine
end

section
namespace Mine
open PySem Classical
section
variable {G : Glo} {fs : List Env} {A : Around} {H : Hid} {S : Store} {s : Shared} {a : Addr} {hp : Bool} {kvs : List (Kd × D)}
set_option tactic.hygienic true in
theorem tabOf_inv {d : D} {t : Bool × List (Kd × D)} (h : tabOf S d = some t) : ∃ n, d = .loc n /\ S[n]? = some (.tab t.1 t.2) := by
  unfold tabOf at h
  split at h
  · rename_i n
    split at h
    · rename_i hp kvs e; cases h; exact mk12 n rfl e
    · cases h
  · cases h
theorem tab_at (I : Inv G fs H S s) {v : Value} {d : D} {t : Bool × List (Kd × D)} (r : Rd G.P H s.heap v d) (h : tabOf S d = some t) : ∃ n a, d = .loc n /\ S[n]? = some (.tab t.1 t.2) /\ v = .ref a /\ H.ρ[n]? = some a /\ SAt G H s.heap a (.tab t.1 t.2) := by
  refine ob12 (tabOf_inv h) fun n er1 e => ?_; subst er1
  cases r with | loc ha =>
  refine ob12 (I.objs n _ e) fun a' e1 q => ?_
  rw [ha] at e1; cases e1
  exact mk25 n _ rfl e rfl ha q
set_option tactic.hygienic true in
theorem tabKey_inv {b : Bool} {d : D} {k : Kd} (h : tabKey b d = some k) : kdOf d = some k /\ tabFit b k = true := by
  unfold tabKey at h
  split at h
  · rename_i k' e
    split at h
    · rename_i f; cases h; exact ⟨e, f⟩
    · cases h
  · cases h
theorem keyH {h : Heap} {v : Value} {d : D} {k : Kd} (r : Rd G.P H h v d) (e : tabKey true d = some k) : ∃ a, v = .ref a /\ (kdKind G.prog G.w).is h k a /\ Rd G.P H h (.ref a) (kdD k) := by
  refine ob02 (tabKey_inv e) fun e1 e2 => ?_
  have ed := kdOf_D e1
  cases d with
  | none => cases e1; cases e2
  | int i => cases e1; cases e2
  | str x => cases e1; cases e2
  | tuple ds =>
    have e1' : kdIn (.tuple ds) = some k := e1
    have i := rd_kd r e1'
    cases r with | tuple a b c s' q =>
    have hd : k.dep <= 8 := by
      have e3 : (kdIns ds).map Kd.tup = some k := e1'
      cases hk : kdIns ds with
      | none => rw [hk] at e3; cases e3
      | some ks =>
        rw [hk] at e3; cases e3
        simpa [tabFit] using e2
    exact mk13 _ rfl ⟨i, hd⟩ (by rw [ed]; exact .tuple a b c s' q)
  | _ => cases e1
theorem keyI {h : Heap} {v : Value} {d : D} {k : Kd} (r : Rd G.P H h v d) (e : tabKey false d = some k) : ∃ o, oiK o = k /\ isOI o v = true := by
  refine ob02 (tabKey_inv e) fun e1 e2 => ?_
  cases d with
  | none => cases e1; cases r; exact mk12 none rfl rfl
  | int i => cases e1; cases r; exact mk12 (some i) rfl (by simp [isOI, Value.isInt])
  | str x => cases e1; cases e2
  | tuple ds =>
    have e3 : (kdIns ds).map Kd.tup = some k := e1
    cases hk : kdIns ds with
    | none => rw [hk] at e3; cases e3
    | some ks => rw [hk] at e3; cases e3; cases e2
  | _ => cases e1
theorem oiK_inj {a b : Option Int} (h : oiK a = oiK b) : a = b := by
  cases a with
  | none => cases b with
    | none => rfl
    | some j => cases h
  | some i => cases b with
    | none => cases h
    | some j =>
      have h' : Kd.int i = Kd.int j := h
      cases h'; rfl
theorem TabH.at {P : Params} {h : Heap} (k : Kd) : ∀ {xs : List (Kd × Addr × Value)} {ps : List (Kd × D)}, TabH P H h xs ps -> (tabAt ps k = none -> atKey xs k = none) /\ ∀ d, tabAt ps k = some d -> ∃ p, atKey xs k = some p /\ Rd P H h p.2 d
  | [], [], _ => ⟨fun _ => rfl, fun _ e => by cases e⟩
  | x :: xs, p :: ps, ⟨⟨q1, q2, q3⟩, q4⟩ => by
    have ih := TabH.at k q4
    by_cases hk : p.1 = k
    · have hx : x.1 = k := q1.trans hk
      have e1 : tabAt (p :: ps) k = some p.2 := by simp [tabAt, List.find?_cons, hk]
      have e2 : atKey (x :: xs) k = some x.2 := by simp [atKey, List.find?_cons, hx]
      refine ⟨fun e => (by rw [e1] at e; cases e), fun d e => ⟨x.2, e2, ?_⟩⟩
      rw [e1] at e; cases e; exact q3
    · have hx : ¬ x.1 = k := fun e => hk (q1.symm.trans e)
      have e1 : tabAt (p :: ps) k = tabAt ps k := by simp [tabAt, List.find?_cons, hk]
      have e2 : atKey (x :: xs) k = atKey xs k := by simp [atKey, List.find?_cons, hx]
      rw [e1, e2]; exact ih
  | [], _ :: _, q => q.elim
  | _ :: _, [], q => q.elim
theorem TabI.at {P : Params} {h : Heap} (k : Option Int) : ∀ {xs : List (Option Int × Value)} {ps : List (Kd × D)}, TabI P H h xs ps -> (tabAt ps (oiK k) = none -> valueAt xs k = none) /\ ∀ d, tabAt ps (oiK k) = some d -> ∃ p, valueAt xs k = some p /\ Rd P H h p d
  | [], [], _ => ⟨fun _ => rfl, fun _ e => by cases e⟩
  | x :: xs, p :: ps, ⟨⟨q1, q3⟩, q4⟩ => by
    have ih := TabI.at k q4
    by_cases hk : p.1 = oiK k
    · have hx : x.1 = k := oiK_inj (q1.trans hk)
      have e1 : tabAt (p :: ps) (oiK k) = some p.2 := by simp [tabAt, List.find?_cons, hk]
      have e2 : valueAt (x :: xs) k = some x.2 := by simp [valueAt, List.find?_cons, hx]
      refine ⟨fun e => (by rw [e1] at e; cases e), fun d e => ⟨x.2, e2, ?_⟩⟩
      rw [e1] at e; cases e; exact q3
    · have hx : ¬ x.1 = k := fun e => hk (by rw [<- q1, e])
      have e1 : tabAt (p :: ps) (oiK k) = tabAt ps (oiK k) := by simp [tabAt, List.find?_cons, hk]
      have e2 : valueAt (x :: xs) k = valueAt xs k := by simp [valueAt, List.find?_cons, hx]
      rw [e1, e2]; exact ih
  | [], _ :: _, q => q.elim
  | _ :: _, [], q => q.elim
theorem TabH.map {P : Params} {h : Heap} {k : Kd} {v : Value} {d : D} (r : Rd P H h v d) : ∀ {xs : List (Kd × Addr × Value)} {ps : List (Kd × D)}, TabH P H h xs ps -> TabH P H h (xs.map (putAt k v)) (ps.map fun p => if p.1 = k then (p.1, d) else p)
  | [], [], _ => trivial
  | x :: xs, p :: ps, ⟨⟨q1, q2, q3⟩, q4⟩ => by
    refine ⟨?_, TabH.map r q4⟩
    dsimp only
    by_cases hk : p.1 = k
    · have hx : x.1 = k := q1.trans hk
      rw [putAt, if_pos hx, if_pos hk]; exact ⟨q1, q2, r⟩
    · have hx : ¬ x.1 = k := fun e => hk (q1.symm.trans e)
      rw [putAt, if_neg hx, if_neg hk]; exact ⟨q1, q2, q3⟩
  | [], _ :: _, q => q.elim
  | _ :: _, [], q => q.elim
theorem TabH.add {P : Params} {h : Heap} {k : Kd} {a : Addr} {v : Value} {d : D} (rk : Rd P H h (.ref a) (kdD k)) (r : Rd P H h v d) : ∀ {xs : List (Kd × Addr × Value)} {ps : List (Kd × D)}, TabH P H h xs ps -> TabH P H h (xs ++ [(k, a, v)]) (ps ++ [(k, d)])
  | [], [], _ => ⟨⟨rfl, rk, r⟩, trivial⟩
  | _ :: _, _ :: _, ⟨q1, q4⟩ => ⟨q1, TabH.add rk r q4⟩
  | [], _ :: _, q => q.elim
  | _ :: _, [], q => q.elim
theorem TabH.put {P : Params} {h : Heap} {k : Kd} {a : Addr} {v : Value} {d : D} (rk : Rd P H h (.ref a) (kdD k)) (r : Rd P H h v d) {xs : List (Kd × Addr × Value)} {ps : List (Kd × D)} (q : TabH P H h xs ps) : TabH P H h (storedH xs k a v) (tabPut ps k d) := by
  have := q.at k
  cases ht : tabAt ps k with
  | none =>
    have e := this.1 ht
    unfold storedH tabPut
    rw [ht, e]
    exact q.add rk r
  | some y =>
    refine ob12 (this.2 y ht) fun p e _ => ?_
    unfold storedH tabPut
    rw [ht, e]
    exact q.map r
theorem TabI.map {P : Params} {h : Heap} {k : Option Int} {v : Value} {d : D} (r : Rd P H h v d) : ∀ {xs : List (Option Int × Value)} {ps : List (Kd × D)}, TabI P H h xs ps -> TabI P H h (xs.map fun x => if x.1 = k then (x.1, v) else x) (ps.map fun p => if p.1 = oiK k then (p.1, d) else p)
  | [], [], _ => trivial
  | x :: xs, p :: ps, ⟨⟨q1, q3⟩, q4⟩ => by
    refine ⟨?_, TabI.map r q4⟩
    dsimp only
    by_cases hk : p.1 = oiK k
    · have hx : x.1 = k := oiK_inj (q1.trans hk)
      rw [if_pos hx, if_pos hk]; exact ⟨q1, r⟩
    · have hx : ¬ x.1 = k := fun e => hk (by rw [<- q1, e])
      rw [if_neg hx, if_neg hk]; exact ⟨q1, q3⟩
  | [], _ :: _, q => q.elim
  | _ :: _, [], q => q.elim
theorem TabI.add {P : Params} {h : Heap} {k : Option Int} {v : Value} {d : D} (r : Rd P H h v d) : ∀ {xs : List (Option Int × Value)} {ps : List (Kd × D)}, TabI P H h xs ps -> TabI P H h (xs ++ [(k, v)]) (ps ++ [(oiK k, d)])
  | [], [], _ => ⟨⟨rfl, r⟩, trivial⟩
  | _ :: _, _ :: _, ⟨q1, q4⟩ => ⟨q1, TabI.add r q4⟩
  | [], _ :: _, q => q.elim
  | _ :: _, [], q => q.elim
theorem any_value {xs : List (Option Int × Value)} {k : Option Int} : (xs.any fun x => decide (x.1 = k)) = (valueAt xs k).isSome := by
  induction xs with
  | nil => rfl
  | cons x xs ih =>
    by_cases hx : x.1 = k
    · simp [valueAt, List.find?_cons, hx]
    · simpa [valueAt, List.find?_cons, hx] using ih
theorem TabI.put {P : Params} {h : Heap} {k : Option Int} {v : Value} {d : D} (r : Rd P H h v d) {xs : List (Option Int × Value)} {ps : List (Kd × D)} (q : TabI P H h xs ps) : TabI P H h (stored xs k v) (tabPut ps (oiK k) d) := by
  have := q.at k
  have ha := any_value (xs := xs) (k := k)
  cases ht : tabAt ps (oiK k) with
  | none =>
    have e := this.1 ht
    rw [e] at ha
    unfold stored tabPut
    rw [ht, if_neg (by rw [ha]; exact Bool.false_ne_true)]
    exact q.add r
  | some y =>
    refine ob12 (this.2 y ht) fun p e _ => ?_
    rw [e] at ha
    unfold stored tabPut
    rw [ht, if_pos (show (xs.any fun x => decide (x.1 = k)) = true from ha)]
    exact q.map r
theorem TabH.len {P : Params} {h : Heap} : ∀ {xs : List (Kd × Addr × Value)} {ps : List (Kd × D)}, TabH P H h xs ps -> xs.length = ps.length
  | [], [], _ => rfl
  | _ :: _, _ :: _, ⟨_, q⟩ => by simp [TabH.len q]
  | [], _ :: _, q => q.elim
  | _ :: _, [], q => q.elim
theorem TabI.len {P : Params} {h : Heap} : ∀ {xs : List (Option Int × Value)} {ps : List (Kd × D)}, TabI P H h xs ps -> xs.length = ps.length
  | [], [], _ => rfl
  | _ :: _, _ :: _, ⟨_, q⟩ => by simp [TabI.len q]
  | [], _ :: _, q => q.elim
  | _ :: _, [], q => q.elim
theorem room_in1 (hu : A.units <= 9000) : (kdKind G.prog G.w).room A.in1 := by show A.units + 1 + 8 < 9900; lia
theorem tab_in (I : Inv G fs H S s) {v u : Value} {a b : D} {t : Bool × List (Kd × D)} (r : Rd G.P H s.heap v a) (q : Rd G.P H s.heap u b) (hu : A.units <= 9000) (ht : tabOf S b = some t) :
    tabIn t.1 t.2 a S = .stuck \/ ∃ c, tabIn t.1 t.2 a S = .ok c S /\ ∀ {Q : Value -> Shared -> Prop} {E : Value -> Shared -> Prop}, (∀ tk, Q (.bool c) { s with toks := tk }) -> wpAny G.M A (compareOp .In v u) Q E s := by
  refine ob26 (tab_at I q ht) fun n x er1 hS er2 ha hx hT => ?_; subst er1; subst er2
  obtain ⟨hp, kvs⟩ := t
  unfold tabIn
  cases hk : tabKey hp a with
  | none => exact .inl rfl
  | some k =>
    refine .inr ⟨(tabAt kvs k).isSome, rfl, fun h => ?_⟩
    cases hp with
    | true =>
      refine ob12 hT fun xs q1 q2 => ?_; clear hT
      refine ob13 (keyH r hk) fun a' er1 i rk => ?_; subst er1
      refine wpAny_in_heap (knd := kdKind G.prog G.w) (room_in1 hu) i (beq_false_of_ne hx) q1 ?_
      have e : (atKey xs k).isSome = (tabAt kvs k).isSome := by
        cases ht : tabAt kvs k with
        | none => rw [(q2.at k).1 ht]; rfl
        | some d => refine ob12 ((q2.at k).2 d ht) fun p e _ => ?_; rw [e]; rfl
      rw [e]; exact h _
    | false =>
      refine ob12 hT fun xs q1 q2 => ?_; clear hT
      refine ob12 (keyI r hk) fun o er1 i => ?_; subst er1
      refine wpAny_in_of (knd := oiKind G.prog G.w) (k := o) i (beq_false_of_ne hx) q1.mapOf ?_
      have e : (valueAt xs o).isSome = (tabAt kvs (oiK o)).isSome := by
        cases ht : tabAt kvs (oiK o) with
        | none => rw [(q2.at o).1 ht]; rfl
        | some d => refine ob12 ((q2.at o).2 d ht) fun p e _ => ?_; rw [e]; rfl
      rw [e]; exact h _
theorem tab_type (hT : SAt G H s.heap a (.tab hp kvs)) : s.TypeIs (.ref a) "dict" := by
  refine ob02 hT fun _ hT => ?_
  cases hp with
  | true => refine ob12 hT fun _ q _ => ?_; clear hT; exact q.typeIs
  | false => refine ob12 hT fun _ q _ => ?_; clear hT; exact q.typeIs
theorem tab_nodict (hT : SAt G H s.heap a (.tab hp kvs)) : ∀ b, Value.ref a = .ref b -> ∃ ob, s.heap.get? b = some ob /\ ob.dict = none := by
  refine ob02 hT fun _ hT => ?_
  cases hp with
  | true => obtain ⟨_, ⟨o, es, ep, ho, hc, _⟩, _⟩ := hT; exact fun b q => by cases q; exact mk12 o ho hc.2.1
  | false => obtain ⟨_, ⟨o, es, ep, ho, hc, _⟩, _⟩ := hT; exact fun b q => by cases q; exact mk12 o ho hc.2.1
theorem tabItem_inv {hp : Bool} {kvs : List (Kd × D)} {a : D} (h : tabItem hp kvs a S ≠ .stuck) : ∃ k d, tabKey hp a = some k /\ tabAt kvs k = some d /\ tabItem hp kvs a S = .ok d S := by
  unfold tabItem at h ⊢
  cases hk : tabKey hp a with
  | none => rw [hk] at h; exact absurd rfl h
  | some k =>
    rw [hk] at h
    cases hd : tabAt kvs k with
    | none => dsimp only at h; rw [hd] at h; exact absurd rfl h
    | some d => exact mk23 k d rfl hd (by dsimp only; rw [hd]; rfl)
theorem tab_item (I : Inv G fs H S s) {v u : Value} {a b d : D} {t : Bool × List (Kd × D)} (r : Rd G.P H s.heap v a) (q : Rd G.P H s.heap u b) (hu : A.units <= 9000) (ht : tabOf S a = some t) {k : Kd} (hk : tabKey t.1 b = some k) (hd : tabAt t.2 k = some d) {Q : Value -> Shared -> Prop} {E : Value -> Shared -> Prop}
    (h : ∀ w tk, Rd G.P H s.heap w d -> Q w { s with toks := tk }) : wpAny G.M A (getItem v u) Q E s := by
  refine ob26 (tab_at I r ht) fun n x er1 hS er2 ha hx hT => ?_; subst er1; subst er2
  obtain ⟨hp, kvs⟩ := t
  cases hp with
  | true =>
    refine ob12 hT fun xs q1 q2 => ?_; clear hT
    refine ob13 (keyH q hk) fun a' er1 i rk => ?_; subst er1
    refine ob12 ((q2.at k).2 d hd) fun p e rp => ?_
    exact wpAny_getItem_heap (knd := kdKind G.prog G.w) (room_in1 hu) i q1 e (h _ _ rp)
  | false =>
    refine ob12 hT fun xs q1 q2 => ?_; clear hT
    refine ob12 (keyI q hk) fun o er1 i => ?_; subst er1
    refine ob12 ((q2.at o).2 d hd) fun p e rp => ?_
    exact wpAny_getItem_of (knd := oiKind G.prog G.w) (k := o) i q1.mapOf e (h _ _ rp)
theorem tab_set (I : Inv G fs H S s) {a y : Addr} {v u : Value} {b d : D} {t : Bool × List (Kd × D)} {k : Kd} (hT : SAt G H s.heap y (.tab t.1 t.2)) (q : Rd G.P H s.heap u b) (rv : Rd G.P H s.heap v d) (hu : A.units <= 9000) (hk : tabKey t.1 b = some k) (hz : t.2.length < 4000000) {Q : Unit -> Shared -> Prop} {E : Value -> Shared -> Prop}
    (h : ∀ h' tk, Heap.SameBut y s.heap h' -> (Ext [] H s.heap H h' -> SAt G H h' y (.tab t.1 (tabPut t.2 k d))) -> Q () { s with heap := h', toks := tk }) : wpAny G.M A (setItem (.ref y) u v) Q E s := by
  obtain ⟨hp, kvs⟩ := t
  refine ob02 hT fun hx hT => ?_
  have hz' : kvs.length <= sizeLine := Nat.le_trans (Nat.le_of_lt hz) (by decide)
  cases hp with
  | true =>
    refine ob12 hT fun xs q1 q2 => ?_; clear hT
    refine ob13 (keyH q hk) fun a' er1 i rk => ?_; subst er1
    refine wpAny_setItem_heap (knd := kdKind G.prog G.w) (room_in1 hu) i q1 (fun h' hd hs => h h' _ hs fun x => ⟨hx, _, hd, ?_⟩) (by rw [q2.len]; exact hz')
    exact (q2.put rk rv).ext x.hk x.hp
  | false =>
    refine ob12 hT fun xs q1 q2 => ?_; clear hT
    refine ob12 (keyI q hk) fun o er1 i => ?_; subst er1
    refine wpAny_setItem_pairs (knd := oiKind G.prog G.w) (k := o) i q1 (fun h' hd hs => h h' _ hs fun x => ⟨hx, _, hd, ?_⟩) (by rw [q2.len]; exact hz')
    exact (q2.put rv).ext x.hk x.hp
end
end Mine
end

section
namespace Mine
open PySem
noncomputable abbrev RR (G : Glo) : Hid -> Heap -> Value -> D -> Prop := fun H h v d => Rd G.P H h v d
noncomputable abbrev RB : Hid -> Heap -> Bool -> Bool -> Prop := fun _ _ b c => b = c
noncomputable abbrev RL (G : Glo) : Hid -> Heap -> List Value -> List D -> Prop := fun H h vs ds => RdAll G.P H h vs ds
section
variable {G : Glo} {fs : List Env} {A : Around} {H : Hid} {S : Store} {s : Shared}
theorem line63 {n : Nat} (h : n <= sizeLine) : (n : Int) < 2 ^ 63 := by
  have : sizeLine = 16777216 := by decide
  lia
theorem Rd.isList {h : Heap} {a : Addr} {vs : Array Value} {n : Nat} (e : h.get? a = some (lstO vs n)) : h.IsList a vs := ⟨_, e, rfl, n, rfl⟩
theorem Rd.isTup {h : Heap} {a : Addr} {vs : Array Value} {n : Nat} (e : h.get? a = some (tupO vs n)) : PyProof.Rows.IsTup h a vs := ⟨_, e, rfl, n, rfl⟩
theorem listOf_loc (S : Store) (n : Nat) : listOf S (.loc n) = match S[n]? with
    | some (.list ds) => some ds
    | _ => none := rfl
set_option tactic.hygienic true in
theorem listOf_ok (I : Inv G fs H S s) {v : Value} {d : D} {ds : List D} (r : Rd G.P H s.heap v d) (e : listOf S d = some ds) :
    ∃ a vs n, v = .ref a /\ s.heap.get? a = some (lstO vs n) /\ vs.size <= sizeLine /\ RdAll G.P H s.heap vs.toList ds := by
  cases r with
  | list a b c l q => cases e; exact mk34 _ _ _ rfl c l q
  | loc q =>
    rw [listOf_loc] at e
    split at e
    · rename_i ds' hS
      cases e
      obtain ⟨a', e1, vs, m, e2, e3, e4⟩ := I.objs _ _ hS
      rw [q] at e1; cases e1
      exact mk34 _ vs m rfl e2 e3 e4
    · cases e
  | _ => cases e
theorem Rd.tup_inv {P : Params} {h : Heap} {v : Value} {ds : List D} (r : Rd P H h v (.tuple ds)) : ∃ a vs n, v = .ref a /\ h.get? a = some (tupO vs n) /\ vs.size <= sizeLine /\ RdAll P H h vs.toList ds := by cases r; exact mk34 _ _ _ rfl ‹_› ‹_› ‹_›
theorem Rd.lst_inv {P : Params} {h : Heap} {v : Value} {ds : List D} (r : Rd P H h v (.list ds)) : ∃ a vs n, v = .ref a /\ h.get? a = some (lstO vs n) /\ vs.size <= sizeLine /\ RdAll P H h vs.toList ds := by cases r; exact mk34 _ _ _ rfl ‹_› ‹_› ‹_›
theorem RdAll.cons_inv {P : Params} {h : Heap} {vs : List Value} {d : D} {ds : List D} (r : RdAll P H h vs (d :: ds)) : ∃ v us, vs = v :: us /\ Rd P H h v d /\ RdAll P H h us ds := by cases r; exact mk23 _ _ rfl ‹_› ‹_›
theorem pys_inv {d : D} {ds : List D} {ps : List PyData} (e : D.pys (d :: ds) = some ps) : ∃ p qs, d.py = some p /\ D.pys ds = some qs /\ ps = p :: qs := by
  have e' : (match D.py d, D.pys ds with
    | some p, some ps => some (p :: ps)
    | _, _ => Option.none) = some ps := e
  cases hp : d.py with
  | none => rw [hp] at e'; cases e'
  | some p =>
    cases hq : D.pys ds with
    | none => rw [hp, hq] at e'; cases e'
    | some qs => rw [hp, hq] at e'; cases e'; exact mk23 p qs rfl rfl rfl
mutual
theorem py_ok {P : Params} {h : Heap} : ∀ (d : D) {v : Value} {p : PyData}, Rd P H h v d -> d.py = some p -> (∃ as, Reads h v p as) /\ p.canLay0 = true
  | .none, _, _, r, e => by cases r; cases e; exact ⟨⟨_, .none⟩, rfl⟩
  | .bool b, _, _, r, e => by cases r; cases e; exact ⟨⟨_, .bool b⟩, rfl⟩
  | .int i, _, _, r, e => by cases r; cases e; exact ⟨⟨_, .int i _⟩, rfl⟩
  | .str x, _, _, r, e => by cases r; cases e; exact ⟨⟨_, .str x _⟩, ‹_›⟩
  | .tuple ds, _, p, r, e => by
    obtain ⟨a, vs, n, rfl, c, _, r⟩ := r.tup_inv
    have e' : (D.pys ds).map PyData.tuple = some p := e
    refine ob12 (Option.map_eq_some_iff.mp e') fun ps hp er1 => ?_; subst er1
    obtain ⟨⟨as, q⟩, k⟩ := pys_ok ds r hp
    exact ⟨⟨_, .tuple c rfl rfl q⟩, k⟩
  | .list ds, _, p, r, e => by
    obtain ⟨a, vs, n, rfl, c, _, r⟩ := r.lst_inv
    have e' : (D.pys ds).map PyData.list = some p := e
    refine ob12 (Option.map_eq_some_iff.mp e') fun ps hp er1 => ?_; subst er1
    obtain ⟨⟨as, q⟩, k⟩ := pys_ok ds r hp
    exact ⟨⟨_, .list c rfl rfl q⟩, k⟩
  | .dict _, _, _, _, e => nomatch e
  | .range _ _, _, _, _, e => nomatch e
  | .loc _, _, _, _, e => nomatch e
theorem pys_ok {P : Params} {h : Heap} : ∀ (ds : List D) {vs : List Value} {ps : List PyData}, RdAll P H h vs ds -> D.pys ds = some ps -> (∃ as, ReadsAll h vs ps as) /\ PyData.canLayAll0 ps = true
  | [], _, _, r, e => by cases r; cases e; exact ⟨⟨_, .nil⟩, rfl⟩
  | d :: ds, _, _, r, e => by
    obtain ⟨v, us, rfl, a, r⟩ := r.cons_inv
    refine ob23 (pys_inv e) fun p qs hp hq er1 => ?_; subst er1
    obtain ⟨⟨as, q⟩, k⟩ := py_ok d a hp
    obtain ⟨⟨bs, q'⟩, k'⟩ := pys_ok ds r hq
    exact ⟨⟨_, .cons q q'⟩, Bool.and_eq_true_iff.mpr ⟨k, k'⟩⟩
end
theorem pyAt_ok {v : Value} {d : D} {p : PyData} (r : Rd G.P H s.heap v d) (e : pyAt S d = some p) : (∃ as, Reads s.heap v p as) /\ p.canLay0 = true := py_ok _ r e
theorem Rd.str_inv {h : Heap} {v : Value} {x : Str} (r : Rd G.P H h v (.str x)) : ∃ t, v = .str x t /\ PyData.strOk x = true /\ x.length <= sizeLine := by cases r; exact mk13 _ rfl ‹_› ‹_›
theorem truth_ok (I : Inv G fs H S s) {v : Value} {d : D} (r : Rd G.P H s.heap v d) : Wp G fs A RB H S s (truthy v) (truthM d) := by
  intro hne
  have hb : ∃ b, d = .bool b := by
    have h' : optM (truth S d) S ≠ .stuck := hne
    unfold truth at h'
    split at h'
    · exact mk11 _ rfl
    · exact absurd rfl h'
  refine ob11 hb fun b er1 => ?_; clear hb; subst er1
  cases r
  exact wpAny_truthy_bool ⟨b, S, H, rfl, Ext.refl, I, rfl⟩
noncomputable abbrev RV : Hid -> Heap -> Value -> Bool -> Prop := fun _ _ v b => v = .bool b
theorem notIn_of_in {M : Model} {E : Value -> Shared -> Prop} {a b : Value} {Q : Value -> Shared -> Prop} (h : wpAny M A (compareOp .In a b) (fun v s' => ∃ c, v = .bool c /\ Q (.bool (!c)) s') E s) :
    wpAny M A (compareOp .NotIn a b) Q E s := by
  intro Γ p hΓ
  have q := h Γ p hΓ
  simp only [compareOp] at q ⊢
  rw [Sem.wp_bind'] at q ⊢
  refine Sem.wp_mono M Γ _ (fun c p' s' x => ?_) (fun _ _ _ x => x) p s q
  rw [Sem.wp_pure'] at x ⊢
  refine ob12 x fun c' e y => ?_; clear x
  cases e; exact y
theorem ents_find {P : Params} {h : Heap} (x : Str) {es : List DictEntry} {kvs : List (Str × D)} (r : RdEnts P H h es kvs) :
    (∀ d, kvs.lookup x = some d -> ∃ v, (es.find? fun e => Value.isStrOf x e.key).map (·.val) = some v /\ Rd P H h v d) /\ (kvs.lookup x = none -> (es.find? fun e => Value.isStrOf x e.key).map (·.val) = none) := by
  refine RdEnts.ind (M := fun es kvs => (∀ d, kvs.lookup x = some d -> ∃ v, (es.find? fun e => Value.isStrOf x e.key).map (·.val) = some v /\ Rd P H h v d) /\ (kvs.lookup x = none -> (es.find? fun e => Value.isStrOf x e.key).map (·.val) = none)) ⟨fun d e => (nomatch e), fun _ => rfl⟩ (fun {e r y t d kvs} k _ _ _ w i => ?_) r
  have hk : Value.isStrOf x e.key = (x == y) := by
    rw [k]; show (y == x) = (x == y)
    exact BEq.comm
  rw [List.lookup_cons, List.find?_cons, hk]
  cases x == y with
  | true => exact ⟨fun d' e => ⟨_, rfl, Option.some.inj e ▸ w⟩, fun e => nomatch e⟩
  | false => exact i
theorem ents_keys {h : Heap} {es : List DictEntry} {kvs : List (Str × D)} (r : RdEnts G.P H h es kvs) : ∀ e ∈ es, ∃ x, (strKind G.prog G.w).is x e.key = true /\ e.hash = (strKind G.prog G.w).hash x :=
  RdEnts.ind (M := fun es _ => ∀ e ∈ es, ∃ x, (strKind G.prog G.w).is x e.key = true /\ e.hash = (strKind G.prog G.w).hash x) (fun _ hm => nomatch hm) (fun {_ _ y t _ _} k _ _ hh _ q e hm =>
    (List.mem_cons.mp hm).elim (fun e0 => e0 ▸ ⟨y, by rw [k]; exact strKind_is G.prog G.w y t, hh⟩) (q e)) r
theorem dict_map {h : Heap} {a : Addr} {es : Array DictEntry} {n : Nat} {kvs : List (Str × D)} (e : h.get? a = some (dicO es n)) (r : RdEnts G.P H h es.toList kvs) :
    h.MapOf (strKind G.prog G.w) a (fun k => findBy Value.isStrOf es k) :=
  ⟨_, es, n, e, ⟨rfl, rfl, rfl⟩, rfl, fun e he => ents_keys r e (Array.mem_toList_iff.mpr he), fun _ => rfl⟩
theorem findBy_list (x : Str) (es : Array DictEntry) : findBy Value.isStrOf es x = (es.toList.find? fun e => Value.isStrOf x e.key).map (·.val) := by
  unfold findBy
  rw [Array.find?_toList]
theorem eqM_val {a b : D} (hne : eqM a b S ≠ .stuck) : ∃ pa pb, pyAt S a = some pa /\ pyAt S b = some pb /\ min pa.depth pb.depth <= 600 /\ eqM a b S = .ok (PyData.eqv pa pb) S := by
  unfold eqM at hne ⊢
  cases hp : pyAt S a with
  | none => rw [hp] at hne; exact absurd rfl hne
  | some pa =>
    cases hq : pyAt S b with
    | none => rw [hp, hq] at hne; exact absurd rfl hne
    | some pb =>
      rw [hp, hq] at hne
      dsimp only at hne ⊢
      by_cases hl : lineOf pa pb = true
      · exact mk24 pa pb rfl rfl (of_decide_eq_true hl) (by rw [if_pos hl])
      · rw [if_neg hl] at hne; exact absurd rfl hne
theorem bnd_ne {α β : Type} {m : EM α} {f : α -> EM β} (h : bnd m f S ≠ .stuck) : m S ≠ .stuck := fun q => h (by unfold bnd; rw [q])
theorem bnd_ok {α β : Type} {m : EM α} {f : α -> EM β} {a : α} {S' : Store} (e : m S = .ok a S') : bnd m f S = f a S' := by unfold bnd; rw [e]
theorem eqM_ok (I : Inv G fs H S s) {v u : Value} {a b : D} (r : Rd G.P H s.heap v a) (q : Rd G.P H s.heap u b) (hu : A.units <= 9000) :
    Wp G fs A RV H S s (compareOp .Eq v u) (eqM a b) := by
  intro hne
  refine ob24 (eqM_val hne) fun pa pb hp hq hd e => ?_
  rw [e]
  obtain ⟨⟨as, ra⟩, ka⟩ := pyAt_ok r hp
  obtain ⟨⟨bs, rb⟩, kb⟩ := pyAt_ok q hq
  exact SeqAt.compareEq_reads ra rb ka kb (by show A.units + min pa.depth pb.depth < 9900; lia) ⟨_, S, H, rfl, Ext.refl, I, rfl⟩
theorem neM_ok (I : Inv G fs H S s) {v u : Value} {a b : D} (r : Rd G.P H s.heap v a) (q : Rd G.P H s.heap u b) (hu : A.units <= 9000) :
    Wp G fs A RV H S s (compareOp .NotEq v u) (bnd (eqM a b) fun c => ret (!c)) := by
  intro hne
  refine ob24 (eqM_val (bnd_ne hne)) fun pa pb hp hq hd e => ?_
  rw [bnd_ok e]
  obtain ⟨⟨as, ra⟩, ka⟩ := pyAt_ok r hp
  obtain ⟨⟨bs, rb⟩, kb⟩ := pyAt_ok q hq
  exact SeqAt.compareNe_reads ra rb ka kb (by show A.units + min pa.depth pb.depth < 9900; lia) ⟨_, S, H, rfl, Ext.refl, I, rfl⟩
theorem isM_v {h : Heap} {v u : Value} {a b : D} (r : Rd G.P H h v a) (q : Rd G.P H h u b) (hne : isM a b S ≠ .stuck) : u = .none /\ isM a b = ret (v == .none) := by
  have hb : b = .none := by
    unfold isM at hne
    split at hne
    · rfl
    · exact absurd rfl hne
  subst hb
  cases q
  refine ⟨rfl, ?_⟩
  cases r <;> rfl
theorem isM_ok (I : Inv G fs H S s) {v u : Value} {a b : D} (r : Rd G.P H s.heap v a) (q : Rd G.P H s.heap u b) :
    Wp G fs A RV H S s (compareOp .Is v u) (isM a b) := by
  intro hne
  refine ob02 (isM_v r q hne) fun er1 e => ?_; subst er1
  rw [e]; exact is_none ⟨_, S, H, rfl, Ext.refl, I, rfl⟩
theorem isNotM_ok (I : Inv G fs H S s) {v u : Value} {a b : D} (r : Rd G.P H s.heap v a) (q : Rd G.P H s.heap u b) :
    Wp G fs A RV H S s (compareOp .IsNot v u) (bnd (isM a b) fun c => ret (!c)) := by
  intro hne
  refine ob02 (isM_v r q (bnd_ne hne)) fun er1 e => ?_; subst er1
  rw [e]; exact isNot_none ⟨_, S, H, rfl, Ext.refl, I, rfl⟩
noncomputable def InOk (G : Glo) (A : Around) (s : Shared) (S : Store) (v u : Value) (o : Out Bool) : Prop := o = .stuck \/ ∃ c, o = .ok c S /\ ∀ {Q : Value -> Shared -> Prop} {E : Value -> Shared -> Prop}, (∀ tk, Q (.bool c) { s with toks := tk }) -> wpAny G.M A (compareOp .In v u) Q E s
theorem inL_val {a : D} {ds : List D} : inL ds a S = .stuck \/ ∃ ps pa, D.pys ds = some ps /\ pyAt S a = some pa /\ min (PyData.depthAll ps) pa.depth <= 600 /\ inL ds a S = .ok (ps.any fun p => PyData.eqv p pa) S := by
  unfold inL
  cases hp : D.pys ds with
  | none => exact .inl rfl
  | some ps =>
    cases hq : pyAt S a with
    | none => exact .inl rfl
    | some pa =>
      by_cases hd : min (PyData.depthAll ps) pa.depth <= 600
      · refine .inr ⟨ps, pa, rfl, rfl, hd, ?_⟩
        dsimp only
        unfold anyEq
        rw [if_pos (decide_eq_true hd)]; rfl
      · refine .inl ?_
        dsimp only
        unfold anyEq
        rw [if_neg (by simpa using hd)]; rfl
theorem in_list (I : Inv G fs H S s) {v u : Value} {a b : D} {ds : List D} (r : Rd G.P H s.heap v a) (q : Rd G.P H s.heap u b) (hu : A.units <= 9000) (hl : listOf S b = some ds) : InOk G A s S v u (inL ds a S) := by
  rcases inL_val (S := S) (a := a) (ds := ds) with e | ⟨ps, pa, h1, h2, hd, e⟩
  · exact .inl e
  · refine ob34 (listOf_ok I q hl) fun x vs n er1 e2 e3 e4 => ?_; subst er1
    obtain ⟨⟨as, ra⟩, ka⟩ := pys_ok _ e4 h1
    obtain ⟨⟨bs, rb⟩, kb⟩ := pyAt_ok r h2
    exact .inr (mk12 _ e (fun h => SeqAt.in_list_reads (.list e2 rfl rfl ra) rb ka kb (by show A.units + 1 + min (PyData.depthAll ps) pa.depth < 9900; lia) (h s.toks)))
theorem inM0_any (I : Inv G fs H S s) {v u : Value} {a b : D} (r : Rd G.P H s.heap v a) (q : Rd G.P H s.heap u b) (hu : A.units <= 9000) : InOk G A s S v u (inM0 a b S) := by
  cases b with
  | tuple ds =>
    rcases inL_val (S := S) (a := a) (ds := ds) with e | ⟨ps, pa, h1, h2, hd, e⟩
    · exact .inl e
    · refine ob34 q.tup_inv fun x vs n er1 a3 _ a5 => ?_; subst er1
      obtain ⟨⟨as, ra⟩, ka⟩ := pys_ok _ a5 h1
      obtain ⟨⟨bs, rb⟩, kb⟩ := pyAt_ok r h2
      exact .inr (mk12 _ e (fun h => SeqAt.in_tuple_reads (.tuple a3 rfl rfl ra) rb ka kb (by show A.units + 1 + min (PyData.depthAll ps) pa.depth < 9900; lia) (h s.toks)))
  | list ds => exact in_list I r q hu rfl
  | loc n =>
    have e : inM0 a (.loc n) S = (match listOf S (.loc n) with
      | some ds => inL ds a S
      | none => .stuck) := rfl
    rw [e]
    cases hl : listOf S (.loc n) with
    | none => exact .inl rfl
    | some ds => exact in_list I r q hu hl
  | _ => exact .inl rfl
theorem inM_any (I : Inv G fs H S s) {v u : Value} {a b : D} (r : Rd G.P H s.heap v a) (q : Rd G.P H s.heap u b) (hu : A.units <= 9000) : InOk G A s S v u (inM a b S) := by
  unfold inM
  cases ht : tabOf S b with
  | none => exact inM0_any I r q hu
  | some t => exact tab_in I r q hu ht
theorem inM_ok (I : Inv G fs H S s) {v u : Value} {a b : D} (r : Rd G.P H s.heap v a) (q : Rd G.P H s.heap u b) (hu : A.units <= 9000) :
    Wp G fs A RV H S s (compareOp .In v u) (inM a b) := by
  intro hne
  rcases inM_any I r q hu with e | ⟨c, e, h⟩
  · exact absurd e hne
  · rw [e]; exact h fun tk => mk34 _ S H rfl Ext.refl I.toks rfl
theorem notInM_ok (I : Inv G fs H S s) {v u : Value} {a b : D} (r : Rd G.P H s.heap v a) (q : Rd G.P H s.heap u b) (hu : A.units <= 9000) :
    Wp G fs A RV H S s (compareOp .NotIn v u) (bnd (inM a b) fun c => ret (!c)) := by
  intro hne
  rcases inM_any I r q hu with e | ⟨c, e, h⟩
  · exact absurd e (bnd_ne hne)
  · rw [bnd_ok e]; exact notIn_of_in (h fun tk => ⟨_, rfl, _, S, H, rfl, Ext.refl, I.toks, rfl⟩)
theorem Rd.int_inv {h : Heap} {v : Value} {i : Int} (r : Rd G.P H h v (.int i)) : ∃ t, v = .int i t := by cases r; exact mk11 _ rfl
theorem onInts_ok {α β : Type} {R : Hid -> Heap -> α -> β -> Prop} {m : Sem α} {v u : Value} {a b : D} {k : Int -> Int -> EM β} {z : EM β} (r : Rd G.P H s.heap v a) (q : Rd G.P H s.heap u b)
    (hk : ∀ i j t t', a = .int i -> b = .int j -> v = .int i t -> u = .int j t' -> Wp G fs A R H S s m (k i j)) (hz : Wp G fs A R H S s m z) : Wp G fs A R H S s m (onInts a b k z) := by
  unfold onInts
  split
  · split
    · refine ob11 r.int_inv fun t e => ?_
      refine ob11 q.int_inv fun t' e' => ?_
      exact hk _ _ t t' rfl rfl e e'
    · exact hz
  · exact hz
theorem onStrs_ok {α β : Type} {R : Hid -> Heap -> α -> β -> Prop} {m : Sem α} {v u : Value} {a b : D} {k : Str -> Str -> EM β} {z : EM β} (r : Rd G.P H s.heap v a) (q : Rd G.P H s.heap u b)
    (hk : ∀ x y t t', a = .str x -> b = .str y -> v = .str x t -> u = .str y t' -> PyData.strOk x = true -> PyData.strOk y = true -> Wp G fs A R H S s m (k x y)) (hz : Wp G fs A R H S s m z) : Wp G fs A R H S s m (onStrs a b k z) := by
  unfold onStrs
  split
  · split
    · refine ob13 r.str_inv fun t e h1 _ => ?_
      refine ob13 q.str_inv fun t' e' h2 _ => ?_
      exact hk _ _ t t' rfl rfl e e' h1 h2
    · exact hz
  · exact hz
theorem cmp_ok (I : Inv G fs H S s) {v u : Value} {a b : D} (r : Rd G.P H s.heap v a) (q : Rd G.P H s.heap u b) (hu : A.units <= 9000) (op : CmpOp) :
    Wp G fs A RV H S s (compareOp op v u) (cmpM op a b) := by
  have done : ∀ c : Bool, PV G fs RV H s.heap (ret c S) (.bool c) s := fun c => mk34 c S H rfl Ext.refl I rfl
  cases op with
  | Eq => exact eqM_ok I r q hu
  | NotEq => exact neM_ok I r q hu
  | Is => exact isM_ok I r q
  | IsNot => exact isNotM_ok I r q
  | In => exact inM_ok I r q hu
  | NotIn => exact notInM_ok I r q hu
  | Lt => exact onInts_ok r q (fun i j t t' _ _ e e' _ => by rw [e, e']; exact P.lt_int (done _)) Wp.stk
  | Gt => exact onInts_ok r q (fun i j t t' _ _ e e' _ => by rw [e, e']; exact P.gt_int (done _)) Wp.stk
  | LtE => exact Wp.stk
  | GtE => exact Wp.stk
end
end Mine
end

section
namespace Mine
open PySem
noncomputable def fnOk (fn : Fn) : Bool := fn.scope.kind == .function && !fn.scope.isCoroutine && !fn.scope.isGenerator && decide fn.params.Nodup && decide (fn.scope.names.map (·.1)).Nodup &&
  fn.params.all fun x => match slot fn.scope.names x with
    | some (_, .local) => true
    | some (_, .cell) => true
    | _ => false
noncomputable def biNames : List Str := ["len", "range", "all", "any", "tuple", "list", "int", "bool", "str", "isinstance", "min", "max", "sorted", "reversed", "ValueError", "enumerate"]
structure Cxt (G : Glo) (fs : List Env) (A : Around) (n : Nat) : Prop where
  handled : A.handled = none
  frames : A.frames = some fs
  head : ∃ env l, fs = env :: l /\ env.scope.isGenerator = false /\ env.scope.isCoroutine = false /\ env.builtins = builtinsNs /\ env.globals = mainGlobals
  depth : A.depth + 2 * n <= 850
  units : A.units + 4 * n <= 8900
structure MImpl.Sound (m : Str) (i : MImpl) : Prop where
  find : ∀ {G : Glo} {fs : List Env} {H : Hid} {S : Store} {s : Shared} {v : Value} {a : D}, Inv G fs H S s -> Rd G.P H s.heap v a -> i.ok S a = true ->
    ∃ T, PlainAttrs T /\ Slot T m (i.id a) /\ typeOf (.builtin (i.id a)) = pure (.type "method_descriptor") /\ s.TypeIs v T /\ (∀ b, v = .ref b -> ∃ ob, s.heap.get? b = some ob /\ ob.dict = none)
  run : ∀ {G : Glo} {fs : List Env} {A : Around} {n : Nat} {H : Hid} {S : Store} {s : Shared} {v : Value} {a : D} {vs : List Value} {ds : List D}, Cxt G fs A n -> Inv G fs H S s -> Rd G.P H s.heap v a -> RdAll G.P H s.heap vs ds ->
    Wp G fs A (RR G) H S s (call (.builtin (i.id a)) (v :: vs)) (i.run a ds)
structure BImpl.Sound (x : Str) (i : BImpl) : Prop where
  mem : x ∈ biNames
  boot : bootBuiltins x = some i.val
  ne : x ≠ "__name__"
  val : ∃ id, i.val = .builtin id
  run : ∀ {G : Glo} {fs : List Env} {A : Around} {n : Nat} {H : Hid} {S : Store} {s : Shared} {vs : List Value} {ds : List D} (own : Bool), Cxt G fs A n -> Inv G fs H S s -> RdAll G.P H s.heap vs ds ->
    Wp G fs A (RR G) H S s (call i.val vs) (i.run own ds)
noncomputable def FnAt (G : Glo) (fn : Fn) (a : Addr) : Prop := ∃ o nm q params pm code doc, G.B.heap.get? a = some o /\ o.data = .func (PyProof.Rows.methDef nm q params fn.body fn.scope pm code doc) /\ G.B.heap.CodeRec code q /\ fnOk fn = true /\
  ∀ vs : List Value, vs.length = fn.params.length -> bindArgs (PyProof.Rows.methDef nm q params fn.body fn.scope pm code doc) ⟨vs, []⟩ = pure (fn.params.zip vs)
structure ClsOk (G : Glo) (c : Str) (Ca N : Addr) (mN : Str -> Option Value) : Prop where
  mg : G.mg c = some (.ref Ca)
  at' : PyProof.Rows.ClsAt G.B.heap Ca N mN
  q1 : mN "__getattribute__" = none
  q2 : mN "__getattr__" = none
  q3 : mN "__setattr__" = none
  att : ∀ x, G.C.att c x = true -> mN x = none /\ typeLookup (.type "object") x = pure none
  meth : ∀ m fn, G.C.cfs.lookup (mname c m) = some fn -> ∃ f, mN m = some (.ref f) /\ FnAt G fn f /\ (∃ o, G.B.heap.get? f = some o /\ o.cls = .type "function") /\ ∃ y, typeLookup (.type "object") m = pure y
structure Glo.Ok (G : Glo) : Prop where
  g : G.B.heap.Ns mainGlobals G.mg
  b : G.B.heap.Ns builtinsNs G.mb
  nolimit : G.B.heap.NoLimit
  seer : G.B.heap.NoSeer
  tree : G.prog.given.tree = none
  builtins : ∀ x : Str, x ≠ "__name__" -> G.mb x = bootBuiltins x
  fn : ∀ f fn, G.C.fns.lookup f = some fn -> ∃ a, G.mg f = some (.ref a) /\ FnAt G fn a
  miss : ∀ x ∈ biNames, G.mg x = none
  const : ∀ x d, G.C.consts.lookup x = some d -> ∃ v, G.mg x = some v /\ Rd G.P ⟨[], []⟩ G.B.heap v d
  meths : ∀ m i, G.C.meths.lookup m = some i -> MImpl.Sound m i
  bfs : ∀ x i, G.C.bfs.lookup x = some i -> BImpl.Sound x i
  cls : ∀ c, G.C.clss.contains c = true -> ∃ Ca N mN, ClsOk G c Ca N mN
section
variable {G : Glo} {fs : List Env} {A : Around} {H : Hid} {S : Store} {s : Shared} {n : Nat}
theorem Cxt.in1 (x : Cxt G fs A n) : A.in1.units <= 8901 := by have := x.units; show A.units + 1 <= _; lia
theorem pylong_ok (K : G.Ok) (x : Cxt G fs A n) (I : Inv G fs H S s) : PylongRoom G.M A s := by
  refine ob25 x.head fun env l e h1 h2 h3 h4 => ?_
  refine PylongRoom.of (K.nolimit.keeps I.stays) ?_ (SeerAt.of (K.seer.keeps I.stays) K.tree (x.frames.trans (congrArg some e)) h1 h2 h3 h4)
  have := x.depth
  show A.depth + 100 < 1000
  lia
theorem newStoreH (I : Inv G fs H S s) {tk : Nat} {h' : Heap} {a : Addr} {p : SObj} (k : ∀ b o, s.heap.get? b = some o -> h'.get? b = some o) (ha : s.heap.objs.size <= a) (hg : ∃ o, h'.get? a = some o)
    (r : (∀ b o, b ∉ H.ρ -> b ∉ H.fr -> s.heap.get? b = some o -> (b ∉ H.ρ ++ [a] /\ b ∉ H.fr /\ h'.get? b = some o)) -> (∀ (m : Nat) (b : Addr), H.ρ[m]? = some b -> (H.ρ ++ [a])[m]? = some b) -> SAt G ⟨H.ρ ++ [a], H.fr⟩ h' a p) :
    Ext [] H s.heap ⟨H.ρ ++ [a], H.fr⟩ h' /\ Inv G fs ⟨H.ρ ++ [a], H.fr⟩ (S ++ [p]) { s with heap := h', toks := tk } := by
  refine ob11 hg fun og hg => ?_
  have hsz : s.heap.objs.size <= h'.objs.size := Nat.le_of_lt (Nat.lt_of_le_of_lt ha (Heap.lt_size hg))
  have x : Ext [] H s.heap H h' := Ext.of_keeps k hsz
  have aS : a ∉ H.ρ := fun q => absurd (I.ltS q) (Nat.not_lt.mpr ha)
  have aF : a ∉ H.fr := fun q => absurd (I.ltF q) (Nat.not_lt.mpr ha)
  have hp : ∀ (m : Nat) (b : Addr), H.ρ[m]? = some b -> (H.ρ ++ [a])[m]? = some b := fun m b e => prefix_get rfl e
  have hk : ∀ b o, b ∉ H.ρ -> b ∉ H.fr -> s.heap.get? b = some o -> (b ∉ H.ρ ++ [a] /\ b ∉ H.fr /\ h'.get? b = some o) := fun b o h1 h2 e =>
      ⟨by
        intro q
        rcases List.mem_append.mp q with q | q
        · exact h1 q
        · simp only [List.mem_singleton] at q
          exact absurd (Heap.lt_size e) (by rw [q]; exact Nat.not_lt.mpr ha), h2, k b o e⟩
  refine ⟨⟨rfl, ⟨[a], rfl, by simpa using ha⟩, x.keep, x.keepF, x.size⟩, ?_⟩
  have J := I.grow (tk := tk) k
  refine ⟨J.stays, ?_, J.newF, ?_, J.liveF, ?_, by simp [I.len], ?_, ?_, J.gens, J.os⟩
  · intro b hb
    rcases List.mem_append.mp hb with q | q
    · exact I.newS b q
    · simp only [List.mem_singleton] at q
      subst q
      cases hq : G.B.heap.get? b with
      | none => rfl
      | some o => exact absurd (Heap.lt_size (I.stays b o hq)) (Nat.not_lt.mpr ha)
  · intro b hb
    rcases List.mem_append.mp hb with q | q
    · exact I.off b q
    · simp only [List.mem_singleton] at q; subst q; exact aF
  · rw [List.nodup_append]
    refine ⟨I.nodup, by simp, ?_⟩
    intro b hb c hc q
    simp only [List.mem_singleton] at hc
    subst hc; subst q
    exact aS hb
  · intro m o e
    rcases Nat.lt_or_ge m S.length with hm | hm
    · rw [List.getElem?_append_left hm] at e
      refine ob12 (I.objs m o e) fun b e1 e2 => ?_
      exact mk12 b (hp m b e1) (e2.ext hk hp fun ob q => k _ _ q)
    · have hm' : m = S.length := by
        have := (List.getElem?_eq_some_iff.mp e).1
        simp at this; lia
      subst hm'
      simp at e
      subst e
      exact mk12 a (by rw [<- I.len]; simp) (r hk hp)
  · exact J.fa.step (fun _ q => q) fun b o _ e => mk12 o e (fun q => q)
theorem newStore (I : Inv G fs H S s) {tk : Nat} {h' : Heap} {a : Addr} {p : SObj} (k : ∀ b o, s.heap.get? b = some o -> h'.get? b = some o) (ha : s.heap.objs.size <= a) (hg : ∃ o, h'.get? a = some o)
    (r : (∀ b o, b ∉ H.ρ -> b ∉ H.fr -> s.heap.get? b = some o -> (b ∉ H.ρ ++ [a] /\ b ∉ H.fr /\ h'.get? b = some o)) -> (∀ (m : Nat) (b : Addr), H.ρ[m]? = some b -> (H.ρ ++ [a])[m]? = some b) -> SAt G ⟨H.ρ ++ [a], H.fr⟩ h' a p) :
    PV G fs (RR G) H s.heap (.ok (.loc S.length) (S ++ [p])) (.ref a) { s with heap := h', toks := tk } :=
  let ⟨x, J⟩ := newStoreH (tk := tk) I k ha hg r
  ⟨.loc S.length, S ++ [p], ⟨H.ρ ++ [a], H.fr⟩, rfl, x, J, .loc (by rw [<- I.len]; simp)⟩
theorem newListAt (I : Inv G fs H S s) {vs : List Value} {ds : List D} (r : RdAll G.P H s.heap vs ds) (hz : vs.length <= sizeLine) (C : Cfg) (pos : Pos) {tk c : Nat} {h' : Heap} {a : Addr}
    (k : ∀ b o, s.heap.get? b = some o -> h'.get? b = some o) (ha : s.heap.objs.size <= a) (hg : h'.get? a = some (lstO vs.toArray c)) :
    PV G fs (RR G) H s.heap (mkList C pos ds S) (.ref a) { s with heap := h', toks := tk } := by
  unfold mkList
  by_cases ho : C.own pos = true
  · rw [if_pos ho]
    exact newStore I k ha ⟨_, hg⟩ fun hk hp => mk23 vs.toArray c hg (by simpa using hz) (by simpa using RdAll.ext (H := H) (H' := ⟨H.ρ ++ [a], H.fr⟩) hk hp r)
  · rw [if_neg ho]
    have x : Ext [] H s.heap H h' := Ext.of_keeps k (Nat.le_of_lt (Nat.lt_of_le_of_lt ha (Heap.lt_size hg)))
    exact mk34 (.list ds) S H rfl x (I.grow k) (.list (fun q => absurd (I.ltS q) (Nat.not_lt.mpr ha)) (fun q => absurd (I.ltF q) (Nat.not_lt.mpr ha)) hg (by simpa using hz) (by simpa using r.step x))
theorem newList_ok (I : Inv G fs H S s) {vs : List Value} {ds : List D} (r : RdAll G.P H s.heap vs ds) (hz : vs.length <= sizeLine) (C : Cfg) (pos : Pos) {tk : Nat} :
    PV G fs (RR G) H s.heap (mkList C pos ds S) (.ref s.heap.objs.size) { s with heap := s.heap.push (lstO vs.toArray 0), toks := tk } :=
  newListAt I r hz C pos (fun _ _ e => Heap.get?_push_of_some _ e) (Nat.le_refl _) (Heap.get?_push_size _ rfl)
theorem newTupleAt (I : Inv G fs H S s) {vs : List Value} {ds : List D} (r : RdAll G.P H s.heap vs ds) (hz : vs.length <= sizeLine) {tk c : Nat} {h' : Heap} {a : Addr}
    (k : ∀ b o, s.heap.get? b = some o -> h'.get? b = some o) (hsz : s.heap.objs.size <= h'.objs.size) (ha : s.heap.get? a = none) (hg : h'.get? a = some (tupO vs.toArray c)) :
    PV G fs (RR G) H s.heap (ret (.tuple ds) S) (.ref a) { s with heap := h', toks := tk } := by
  have x : Ext [] H s.heap H h' := Ext.of_keeps k hsz
  exact mk34 (.tuple ds) S H rfl x (I.grow k) (.tuple (fun q => by refine ob11 (I.liveS q) fun o e => ?_; rw [ha] at e; cases e) (fun q => by refine ob11 (I.liveF a q) fun o e => ?_; rw [ha] at e; cases e) hg (by simpa using hz) (by simpa using r.step x))
theorem newTuple_ok (I : Inv G fs H S s) {vs : List Value} {ds : List D} (r : RdAll G.P H s.heap vs ds) (hz : vs.length <= sizeLine) {tk : Nat} :
    PV G fs (RR G) H s.heap (ret (.tuple ds) S) (.ref s.heap.objs.size) { s with heap := s.heap.push (tupO vs.toArray 0), toks := tk } :=
  newTupleAt I r hz (fun _ _ e => Heap.get?_push_of_some _ e) (size_push_le _ _) (PyProof.Rows.fresh_above s.heap 0) (Heap.get?_push_size _ rfl)
theorem PV.int {i : Int} {t tk : Nat} (I : Inv G fs H S s) : PV G fs (RR G) H s.heap (ret (.int i) S) (.int i t) { s with toks := tk } := mk34 _ S H rfl Ext.refl I.toks (.int i t)
theorem strOk_append {x y : Str} (hx : PyData.strOk x = true) (hy : PyData.strOk y = true) : PyData.strOk (x ++ y) = true := by
  unfold PyData.strOk at *
  show (x.cps ++ y.cps).all _ = true
  rw [Array.all_append, hx, hy]; rfl
set_option tactic.hygienic true in
theorem small_bits {i : Int} (h : small i = true) : Builtin.Int.intBits i <= 64 := by
  have h' : i.natAbs < 2 ^ 62 := of_decide_eq_true h
  unfold Builtin.Int.intBits
  split
  · lia
  · rename_i q
    have q' : i.natAbs ≠ 0 := by
      intro e
      exact q (by simpa using e)
    have : i.natAbs.log2 < 62 := (Nat.log2_lt q').mpr h'
    lia
theorem addLists_ok (K : G.Ok) (I : Inv G fs H S s) {v u : Value} {a b : D} (r : Rd G.P H s.heap v a) (q : Rd G.P H s.heap u b) (C : Cfg) (pos : Pos) :
    Wp G fs A (RR G) H S s (binaryOp .Add v u) (addLists C pos a b) := by
  intro hne
  unfold addLists at hne ⊢
  cases ha : listOf S a with
  | none => rw [ha] at hne; exact absurd rfl hne
  | some xs =>
    cases hb : listOf S b with
    | none => rw [ha, hb] at hne; exact absurd rfl hne
    | some ys =>
      rw [ha, hb] at hne
      dsimp only at hne ⊢
      refine ob34 (listOf_ok I r ha) fun x vs m er1 e2 e3 e4 => ?_; subst er1
      refine ob34 (listOf_ok I q hb) fun y ws k er1 f2 f3 f4 => ?_; subst er1
      by_cases hz : xs.length + ys.length <= sizeLine
      · rw [if_pos hz]
        have l1 := e4.length
        have l2 := f4.length
        simp only [Array.length_toList] at l1 l2
        refine P.add_list e2 f2 ?_ (by lia)
        have := newList_ok (tk := s.toks) I (e4.append f4) (by simp; lia) C pos
        rw [show (vs.toList ++ ws.toList).toArray = vs ++ ws from by simp] at this
        exact this
      · rw [if_neg hz] at hne; exact absurd rfl hne
theorem wp_ite {α β : Type} {R : Hid -> Heap -> α -> β -> Prop} {m : Sem α} {c : Prop} [Decidable c] {k : EM β} (h : c -> Wp G fs A R H S s m k) : Wp G fs A R H S s m (if c then k else stk) := by
  split
  · exact h ‹_›
  · exact Wp.stk
theorem wp_iteN {α β : Type} {R : Hid -> Heap -> α -> β -> Prop} {m : Sem α} {c : Prop} [Decidable c] {k : EM β} (h : ¬ c -> Wp G fs A R H S s m k) : Wp G fs A R H S s m (if c then stk else k) := by
  split
  · exact Wp.stk
  · exact h ‹_›
theorem binop_ok (K : G.Ok) (c : Cxt G fs A n) (I : Inv G fs H S s) {v u : Value} {a b : D} (r : Rd G.P H s.heap v a) (q : Rd G.P H s.heap u b) (C : Cfg) (pos : Pos) (op : Operator) :
    Wp G fs A (RR G) H S s (binaryOp op v u) (binop C pos op a b) := by
  cases op with
  | Add =>
    refine onInts_ok r q (fun i j t t' _ _ e e' _ => by rw [e, e']; exact P.add_int (PV.int I)) (onStrs_ok r q (fun x y t t' _ _ e e' hx hy => wp_ite fun hz _ => ?_) (addLists_ok K I r q C pos))
    rw [e, e']
    exact PyProof.Rows.add_str (fun t' tk => mk34 _ S H rfl Ext.refl I.toks (.str _ _ (strOk_append hx hy) (by rw [Str.length_append]; exact hz))) hz
  | Sub => exact onInts_ok r q (fun i j t t' _ _ e e' _ => by rw [e, e']; exact P.sub_int (PV.int I)) Wp.stk
  | Mult => exact onInts_ok r q (fun i j t t' _ _ e e' => wp_ite fun hz _ => by rw [e, e']; exact P.mul_int (PV.int I) (IntMulOk.of_left (small_bits (Bool.and_eq_true_iff.mp hz).1))) Wp.stk
  | FloorDiv => exact onInts_ok r q (fun i j t t' _ _ e e' => wp_iteN fun hz _ => by rw [e, e']; exact PyProof.Rows.floordiv_int hz (PV.int I) (Or.inr (pylong_ok K c I))) Wp.stk
  | Mod => exact onInts_ok r q (fun i j t t' _ _ e e' => wp_iteN fun hz _ => by rw [e, e']; exact PyProof.Rows.mod_int' hz (PV.int I)) Wp.stk
  | _ => exact Wp.stk
theorem unop_ok (I : Inv G fs H S s) {v : Value} {a : D} (r : Rd G.P H s.heap v a) (op : UnaryOp) : Wp G fs A (RR G) H S s (unaryOp op v) (unop op a) := by
  cases op with
  | USub =>
    unfold unop
    dsimp only
    split
    · cases r; exact fun _ => P.neg_int (PV.int I)
    · exact Wp.stk
  | Not =>
    intro hne
    refine not_value ?_
    exact (truth_ok (A := A) I r).seq hne fun w b H1 S1 s1 e x i q n e' => by
      subst q
      exact mk34 _ S1 H1 e' x i (.bool _)
  | _ => exact Wp.stk
end
end Mine
end

section
namespace Mine
open PySem
theorem clip_bounds (lo hi : Option Int) (n : Nat) : sliceBounds lo hi none n = (((clip lo 0 n : Nat) : Int), ((clip hi n n : Nat) : Int), 1) := by
  unfold sliceBounds clip
  have h1 : ((1 : Int) > 0) = True := by simp
  cases lo <;> cases hi <;> simp only [Option.getD_none, h1, if_true, Prod.mk.injEq, and_true, true_and] <;> (try constructor) <;> (try split) <;> lia
theorem clip_le (v : Option Int) (d n : Nat) (hd : d <= n) : clip v d n <= n := by
  unfold clip
  cases v with
  | none => exact hd
  | some i => dsimp only; split <;> lia
theorem pick_cut {α : Type} (xs : Array α) (lo hi : Option Int) : ((sliceRange ((clip lo 0 xs.size : Nat) : Int) ((clip hi xs.size xs.size : Nat) : Int) 1).filterMap (xs[·]?)) = cut lo hi xs.toList := by
  rw [sliceRange_one, pick_run]
  unfold cut
  simp
theorem slicePick_cut (items : Array Value) (lo hi : Option Int) : slicePick items lo hi none = (cut lo hi items.toList).toArray := by
  unfold slicePick
  rw [clip_bounds]
  dsimp only
  rw [pick_cut]
theorem strIdx (lo hi : Option Int) (n : Nat) : Builtin.Str.strSliceIndices lo hi 1 n = sliceRange ((clip lo 0 n : Nat) : Int) ((clip hi n n : Nat) : Int) 1 := by
  have := clip_bounds lo hi n
  unfold sliceBounds at this
  simp only [Prod.mk.injEq] at this
  unfold Builtin.Str.strSliceIndices
  dsimp only
  have h1 : ((1 : Int) > 0) = True := by simp
  simp only [h1, if_true]
  refine ob03 this fun e1 e2 _ => ?_; clear this
  have g1 : ((Option.getD (none : Option Int) 1) > 0) = True := by simp
  simp only [g1, if_true] at e1 e2
  rw [<- e1, <- e2]
  cases lo <;> cases hi <;> rfl
theorem str_cut (x : Str) (lo hi : Option Int) : Txt.slice x lo hi = ⟨(cut lo hi x.cps.toList).toArray⟩ := by
  unfold Txt.slice
  have e : (Builtin.Str.strSliceIndices lo hi 1 x.length).filterMap (x.cps[·]?) = cut lo hi x.cps.toList := by
    rw [strIdx]; exact pick_cut x.cps lo hi
  by_cases h : ((1 : Int) == 1 && (Builtin.Str.strSliceIndices lo hi 1 x.length).length == x.length) = true
  · rw [if_pos h]
    have h' : (Builtin.Str.strSliceIndices lo hi 1 x.length).length = x.length := by simpa using h
    rw [strIdx, sliceRange_one] at h'
    simp only [List.length_map, List.length_range] at h'
    have k1 := clip_le hi x.length x.length (Nat.le_refl _)
    have k2 : clip lo 0 x.length = 0 \/ x.length = 0 := by lia
    have hc : cut lo hi x.cps.toList = x.cps.toList := by
      unfold cut
      have hl : x.cps.toList.length = x.length := by simp [Str.length]
      rw [hl]
      rw [List.take_of_length_le (by rw [List.length_drop, hl]; lia)]
      rcases k2 with k2 | k2
      · rw [k2]; rfl
      · have : x.cps.toList = [] := List.length_eq_zero_iff.mp (by rw [hl]; exact k2)
        rw [this]; simp
    rw [hc]
  · rw [if_neg h, e]
theorem cut_length {α : Type} (lo hi : Option Int) (l : List α) : (cut lo hi l).length <= l.length := by
  unfold cut
  rw [List.length_take, List.length_drop]
  lia
theorem subscripted_any (slice : Expr) (o i : Value) : ∃ ops, subscripted slice false o i = operate ops (getItem o i) := by
  cases slice with
  | Slice lo hi st p => cases st <;> exact mk11 _ rfl
  | _ => exact mk11 _ rfl
section
variable {G : Glo} {fs : List Env} {A : Around} {H : Hid} {S : Store} {s : Shared} {n : Nat}
theorem tail_ok {value slice : Expr} {o i : Value} {T id : String} {Q : Value -> Shared -> Prop} {E : Value -> Shared -> Prop} (hT : s.TypeIs o T)
    (hl : typeLookup (.type T) "__getitem__" = pure (some (.builtin id))) (hg : wpAny G.M A (getItem o i) Q E s) : wpAny G.M A (PyProof.Rows.subscriptTail value slice o i) Q E s := by
  refine ob11 (subscripted_any slice o i) fun ops e => ?_
  exact PyProof.Rows.tail_any hT hl hg e
theorem seqIndex_some {k : Int} {m j : Nat} (h : seqIndex? k m = some j) : j < m /\ ((0 <= k /\ k.toNat = j /\ k < m) \/ (k < 0 /\ -(m : Int) <= k /\ (k + m).toNat = j)) := by
  unfold seqIndex? at h
  by_cases hk : k < 0
  · simp only [hk, if_true] at h
    by_cases q : (decide (0 <= k + (m : Int)) && decide (k + (m : Int) < (m : Int))) = true
    · rw [if_pos q] at h
      cases h
      simp only [Bool.and_eq_true, decide_eq_true_eq] at q
      constructor <;> lia
    · rw [if_neg q] at h; cases h
  · simp only [hk, if_false] at h
    by_cases q : (decide (0 <= k) && decide (k < (m : Int))) = true
    · rw [if_pos q] at h
      cases h
      simp only [Bool.and_eq_true, decide_eq_true_eq] at q
      constructor <;> lia
    · rw [if_neg q] at h; cases h
theorem item_list_ok (I : Inv G fs H S s) {value slice : Expr} {a : Addr} {vs : Array Value} {m : Nat} {ds : List D} {k : Int} {t : Tok} {d : D} (e : s.heap.get? a = some (lstO vs m)) (hz : vs.size <= sizeLine)
    (r : RdAll G.P H s.heap vs.toList ds) (hd : (seqIndex? k ds.length).bind (ds[·]?) = some d) :
    wpAny G.M A (PyProof.Rows.subscriptTail value slice (.ref a) (.int k t)) (PV G fs (RR G) H s.heap (ret d S)) NoE s := by
  cases hj : seqIndex? k ds.length with
  | none => rw [hj] at hd; cases hd
  | some j =>
    rw [hj] at hd
    have hd' : ds[j]? = some d := hd
    refine ob12 (r.get hd') fun v hv rv => ?_
    have l := r.length
    simp only [Array.length_toList] at l
    have hv' : vs[j]? = some v := by rw [<- Array.getElem?_toList]; exact hv
    have key : ∀ tk, PV G fs (RR G) H s.heap (ret d S) v { s with toks := tk } := fun tk => mk34 d S H rfl Ext.refl I.toks rv
    refine ob02 (seqIndex_some hj) fun h1 h2 => ?_
    have h63 := line63 hz
    rcases h2 with ⟨h2, h3, h4⟩ | ⟨h2, h3, h4⟩
    · exact tail_ok (Rd.isList e).typeIs slot_list_getitem.lookup (wpAny_getItem_list (Rd.isList e) h2 (by lia) (by rw [h3]; exact hv') (key s.toks))
    · exact tail_ok (Rd.isList e).typeIs slot_list_getitem.lookup (wpAny_getItem_list_neg (Rd.isList e) h2 (by lia) (by lia) (by rw [l, h4]; exact hv') (key s.toks))
theorem seq_opt {k : Int} {l : Nat} {α : Type} {g : Nat -> Option α} {c : α} (h : (seqIndex? k l).bind g = some c) : ∃ j, seqIndex? k l = some j /\ g j = some c := by
  cases hj : seqIndex? k l with
  | none => rw [hj] at h; cases h
  | some j => rw [hj] at h; exact mk12 j rfl h
theorem item_tup_ok (I : Inv G fs H S s) {value slice : Expr} {x : Addr} {vs : Array Value} {m : Nat} {ds : List D} {k : Int} {t : Tok} (a3 : s.heap.get? x = some (tupO vs m)) (a4 : vs.size <= sizeLine) (a5 : RdAll G.P H s.heap vs.toList ds) :
    Wp G fs A (RR G) H S s (PyProof.Rows.subscriptTail value slice (.ref x) (.int k t)) (itemL ds k) := by
  intro hne
  unfold itemL at hne ⊢
  cases hd : (seqIndex? k ds.length).bind (ds[·]?) with
  | none => rw [hd] at hne; exact absurd rfl hne
  | some d =>
    refine ob12 (seq_opt hd) fun j hj hd => ?_
    refine ob12 (a5.get hd) fun w hw rw' => ?_
    have l := a5.length
    rw [Array.length_toList] at l
    refine ob02 (seqIndex_some hj) fun h1 h2 => ?_
    have h63 := line63 a4
    exact tail_ok (PyProof.Rows.IsTup.typeIs (Rd.isTup a3)) F.slot_tuple_getitem.lookup (PyProof.Rows.getItem_tuple (Rd.isTup a3) (by lia) (by lia) (by rw [l]; exact hj) (by rw [<- Array.getElem?_toList]; exact hw) ⟨d, S, H, rfl, Ext.refl, I, rw'⟩)
theorem item_str_ok (I : Inv G fs H S s) {value slice : Expr} {x : Str} {k : Int} {t t' : Tok} (hx : PyData.strOk x = true) (lx : x.length <= sizeLine) :
    Wp G fs A (RR G) H S s (PyProof.Rows.subscriptTail value slice (.str x t) (.int k t')) (itemS x k) := by
  intro hne
  unfold itemS at hne ⊢
  cases hd : (seqIndex? k x.length).bind (x.cps[·]?) with
  | none => rw [hd] at hne; exact absurd rfl hne
  | some c =>
    have h63 := line63 lx
    refine ob12 (seq_opt hd) fun j hj hg => ?_
    refine ob02 (seqIndex_some hj) fun h1 h2 => ?_
    have hr : (decide (k < -(2 ^ 63 : Int)) || decide (k ≥ 2 ^ 63)) = false := by
      rw [decide_eq_false (by lia), decide_eq_false (by lia)]; rfl
    have hc : c < 0x110000 := of_decide_eq_true (Array.all_eq_true'.mp hx c (Array.mem_of_getElem? hg))
    refine tail_ok (typeIs_str _ _ _) F.slot_str_getitem.lookup (P.getItem_str hr hd ⟨_, S, H, rfl, Ext.refl, I.toks, .str _ _ ?_ ?_⟩)
    · unfold PyData.strOk; simp [hc]
    · show 1 <= sizeLine; decide
theorem item_dict_ok (I : Inv G fs H S s) {value slice : Expr} {v : Value} {kvs : List (Str × D)} {x : Str} {t : Tok} (r : Rd G.P H s.heap v (.dict kvs)) : Wp G fs A (RR G) H S s (PyProof.Rows.subscriptTail value slice v (.str x t)) (optM (kvs.lookup x)) := by
  intro hne
  cases r with | dict a1 a2 a3 a4 a5 a6 a7 =>
  cases hk : kvs.lookup x with
  | none => rw [hk] at hne; exact absurd rfl hne
  | some d =>
    refine ob02 (ents_find x a6) fun i1 _ => ?_
    refine ob12 (i1 d hk) fun w hw rw' => ?_
    have hm := dict_map a3 a6
    exact tail_ok hm.typeIs slot_dict_getitem.lookup (wpAny_getItem_of (knd := strKind G.prog G.w) (strKind_is G.prog G.w x t) hm (by rw [findBy_list]; exact hw) ⟨d, S, H, rfl, Ext.refl, I.toks, rw'⟩)
theorem onStr_ok {m : Sem Value} {v : Value} {a : D} {k : Str -> EM D} {z : EM D} (q : Rd G.P H s.heap v a) (h : ∀ x t, v = .str x t -> PyData.strOk x = true -> x.length <= sizeLine -> Wp G fs A (RR G) H S s m (k x)) (hz : Wp G fs A (RR G) H S s m z) : Wp G fs A (RR G) H S s m (onStr a k z) := by
  unfold onStr
  split
  · refine ob13 q.str_inv fun t e h1 h2 => ?_
    exact h _ t e h1 h2
  · exact hz
theorem onList_ok (I : Inv G fs H S s) {m : Sem Value} {v : Value} {a : D} {k : List D -> EM D} (q : Rd G.P H s.heap v a) (h : ∀ x vs n ds, v = .ref x -> s.heap.get? x = some (lstO vs n) -> vs.size <= sizeLine -> RdAll G.P H s.heap vs.toList ds -> Wp G fs A (RR G) H S s m (k ds)) : Wp G fs A (RR G) H S s m (onList a k) := by
  intro hne
  unfold onList at hne ⊢
  cases hl : listOf S a with
  | none => rw [hl] at hne; exact absurd rfl hne
  | some ds =>
    rw [hl] at hne
    refine ob34 (listOf_ok I q hl) fun x vs n e1 e2 e3 e4 => ?_
    exact h x vs n ds e1 e2 e3 e4 hne
theorem onTup_ok {m : Sem Value} {v : Value} {a : D} {k : List D -> EM D} {z : EM D} (q : Rd G.P H s.heap v a) (h : ∀ x vs n ds, v = .ref x -> s.heap.get? x = some (tupO vs n) -> vs.size <= sizeLine -> RdAll G.P H s.heap vs.toList ds -> Rd G.P H s.heap v (.tuple ds) -> Wp G fs A (RR G) H S s m (k ds)) (hz : Wp G fs A (RR G) H S s m z) : Wp G fs A (RR G) H S s m (onTup a k z) := by
  unfold onTup
  split
  · have q0 := q
    cases q with | tuple a1 a2 a3 a4 a5 => exact h _ _ _ _ rfl a3 a4 a5 q0
  · exact hz
theorem item0_ok (I : Inv G fs H S s) {value slice : Expr} {v u : Value} {a i : D} (r : Rd G.P H s.heap v a) (q : Rd G.P H s.heap u i) :
    Wp G fs A (RR G) H S s (PyProof.Rows.subscriptTail value slice v u) (itemM0 a i) := by
  cases i with
  | int k =>
    refine ob11 q.int_inv fun t er1 => ?_; subst er1
    refine onTup_ok r (fun x vs n ds e1 e2 e3 e4 _ => by rw [e1]; exact item_tup_ok I e2 e3 e4) (onStr_ok r (fun x t' e h1 h2 => by rw [e]; exact item_str_ok I h1 h2) (onList_ok I r fun x vs n ds e1 e2 e3 e4 hne => ?_))
    rw [e1]
    cases hd : (seqIndex? k ds.length).bind (ds[·]?) with
    | none => unfold itemL at hne; rw [hd] at hne; exact absurd rfl hne
    | some d => unfold itemL; rw [hd]; exact item_list_ok I e2 e3 e4 hd
  | str x =>
    refine ob13 q.str_inv fun t er1 _ _ => ?_; subst er1
    show Wp G fs A (RR G) H S s _ (itemD a x)
    unfold itemD
    split
    · exact item_dict_ok I r
    · exact Wp.stk
  | _ => exact Wp.stk
theorem item_ok (hu : A.units <= 8900) (I : Inv G fs H S s) {value slice : Expr} {v u : Value} {a i : D} (r : Rd G.P H s.heap v a) (q : Rd G.P H s.heap u i) :
    Wp G fs A (RR G) H S s (PyProof.Rows.subscriptTail value slice v u) (itemM a i) := by
  intro hne
  unfold itemM at hne ⊢
  cases ht : tabOf S a with
  | none => rw [ht] at hne; exact item0_ok I r q hne
  | some t =>
    rw [ht] at hne
    refine ob23 (tabItem_inv hne) fun k d h1 h2 h3 => ?_
    dsimp only
    rw [h3]
    refine ob25 (tab_at I r ht) fun n x er1 hS er2 ha hT => ?_; subst er1; subst er2
    refine tail_ok (tab_type hT) slot_dict_getitem.lookup ?_
    exact tab_item I r q (by first | (show A.units <= 9000; lia) | (show A.units + 1 <= 9000; omega)) ht h1 h2 fun w tk rw' => mk34 d S H rfl Ext.refl I.toks rw'
noncomputable abbrev slcO (l u : Value) : Obj := { cls := .type "slice", dict := none, data := .fields #[l, u, .none], slots := #[] }
theorem partOf_ok {P : Params} {h : Heap} {v : Value} {d : D} {k : Option Int} (r : Rd P H h v d) (e : partOf d = some k) : IsPart v k := by
  cases r with
  | none => cases e; exact .none
  | int i t => cases e; exact .int i t
  | _ => cases e
theorem part_val {v : Value} {k : Option Int} (h : IsPart v k) : ∃ l : Option (Int × Tok), v = partValue l /\ l.map (·.1) = k := by
  cases h with
  | none => exact mk12 none rfl rfl
  | int i t => exact mk12 (some (i, t)) rfl rfl
theorem cut_rd {P : Params} {h : Heap} {vs : List Value} {ds : List D} (r : RdAll P H h vs ds) (lo hi : Option Int) : RdAll P H h (cut lo hi vs) (cut lo hi ds) := by
  unfold cut
  rw [r.length]
  exact (r.drop _).take _
theorem strOk_cut {x : Str} (hx : PyData.strOk x = true) (lo hi : Option Int) : PyData.strOk ⟨(cut lo hi x.cps.toList).toArray⟩ = true := by
  unfold PyData.strOk at *
  simp only [List.all_toArray, List.all_eq_true]
  intro c hc
  have hm : c ∈ x.cps.toList := by
    unfold cut at hc
    exact List.mem_of_mem_drop (List.mem_of_mem_take hc)
  exact Array.all_eq_true'.mp hx c (Array.mem_toList_iff.mp hm)
set_option tactic.hygienic true in
theorem slice_ok (I : Inv G fs H S s) {value slice : Expr} {v vl vu : Value} {a dl du : D} (r : Rd G.P H s.heap v a) (rl : Rd G.P H s.heap vl dl) (ru : Rd G.P H s.heap vu du) (C : Cfg) (pos : Pos) (hne : sliceM C pos a dl du S ≠ .stuck) :
    wpAny G.M A (PyProof.Rows.subscriptTail value slice v (.ref s.heap.objs.size)) (PV G fs (RR G) H s.heap (sliceM C pos a dl du S)) NoE { s with heap := s.heap.push (slcO vl vu) } := by
  have x : Ext [] H s.heap H (s.heap.push (slcO vl vu)) := Ext.push _
  have J : Inv G fs H S { s with heap := s.heap.push (slcO vl vu) } := I.push'
  have hsl : (s.heap.push (slcO vl vu)).IsSliceOf s.heap.objs.size vl vu .none := ⟨_, Heap.get?_push_size _ rfl, rfl, rfl⟩
  unfold sliceM at hne ⊢
  cases hl : partOf dl with
  | none => rw [hl] at hne; exact absurd rfl hne
  | some lo =>
    cases hu : partOf du with
    | none => rw [hl, hu] at hne; exact absurd rfl hne
    | some hi =>
      rw [hl, hu] at hne
      have pl := partOf_ok rl hl
      have pu := partOf_ok ru hu
      dsimp only at hne ⊢
      have viaList : ∀ {ds : List D}, listOf S a = some ds -> wpAny G.M A (PyProof.Rows.subscriptTail value slice v (.ref s.heap.objs.size)) (PV G fs (RR G) H s.heap (mkList C pos (cut lo hi ds) S)) NoE { s with heap := s.heap.push (slcO vl vu) } := by
        intro ds hd
        refine ob34 (listOf_ok I r hd) fun b vs m er1 e2 e3 e4 => ?_; subst er1
        have e2' : (s.heap.push (slcO vl vu)).get? b = some (lstO vs m) := Heap.get?_push_of_some _ e2
        refine tail_ok ⟨_, e2', rfl⟩ slot_list_getitem.lookup (wpAny_getItem_list_slice (Rd.isList e2') hsl pl pu .none (by simp) ?_ e3)
        rw [slicePick_cut]
        have := newList_ok (tk := s.toks) J (cut_rd (e4.step x) lo hi) (Nat.le_trans (cut_length lo hi vs.toList) (by simpa using e3)) C pos
        exact this.trans x
      cases r with
      | str y t hy ly =>
        refine ob12 (part_val pl) fun l er1 hl' => ?_; subst er1
        refine ob12 (part_val pu) fun u er1 hu' => ?_; subst er1
        refine tail_ok (typeIs_str _ _ _) F.slot_str_getitem.lookup (wpAny_getItem_str_slice (l := l) (u := u) (st := none) ⟨_, Heap.get?_push_size _ rfl, rfl, rfl⟩ rfl (post_val_or_str ?_))
        have e : (if (((Option.map (·.1) (none : Option (Int × Tok))).getD 1 == 1) && (slicePicked y l u none).length == y.length) = true then y else ⟨((slicePicked y l u none).filterMap (y.cps[·]?)).toArray⟩) = (⟨(cut lo hi y.cps.toList).toArray⟩ : Str) := by
          rw [<- str_cut, <- hl', <- hu']
          rfl
        rw [e]
        refine ⟨?_, fun t' k => ⟨_, S, H, rfl, x, J.toks, .str _ _ (strOk_cut hy lo hi) ?_⟩⟩ <;>
        · show (cut lo hi y.cps.toList).toArray.size <= sizeLine
          have := cut_length lo hi y.cps.toList
          simp only [List.size_toArray, Array.length_toList] at this ⊢
          exact Nat.le_trans this ly
      | list a1 a2 a3 a4 a5 => exact viaList rfl
      | loc q =>
        dsimp only at hne ⊢
        split at hne
        · rename_i ds hd; exact viaList hd
        · exact absurd rfl hne
      | _ => exact absurd rfl hne
end
end Mine
end

section
namespace Mine
open PySem Classical
noncomputable def DicAt (h : Heap) (d : Addr) (es : Array DictEntry) (ep : Nat) : Prop := ∃ o, h.get? d = some o /\ o.ExactDict /\ o.data = .dict es ep
section
variable {prog : Program} {w : World} {A : Around} {E : Value -> Shared -> Prop} {s : Shared} {it d : Addr} {es : Array DictEntry} {i ep : Nat}
theorem DicAt.type (m : DicAt s.heap d es ep) : s.TypeIs (.ref d) "dict" := let ⟨o, ho, hc, _⟩ := m; ⟨o, ho, hc.1⟩
theorem DicAt.at {h h' : Heap} (m : DicAt h d es ep) (k : ∀ o, h.get? d = some o -> h'.get? d = some o) : DicAt h' d es ep := let ⟨o, ho, r⟩ := m; ⟨o, k o ho, r⟩
theorem raw_iter {Q : Value -> Shared -> Prop} (hd : (d == sysModules) = false) (hm : DicAt s.heap d es ep)
    (hQ : Q (.ref s.heap.objs.size) { s with heap := s.heap.push { cls := .type "dict_keyiterator", data := .fields #[.ref d, .int 0 0, .int es.size 0, .int ep 0] } }) : wpAny (model prog w) A (pyIter (.ref d)) Q E s := by
  refine ob13 (id hm) fun o ho hc hdat => ?_
  have hT := hm.type
  refine wpAny_pyIter_slot hT F.slot_dict_iter (wpAny_call_entry F.slot_dict_iter hT F.entry_dict_iter ?_ (F.args_dict_iter_1 _))
  unfold Builtin.«dict.__iter__»
  refine wpAny_bind ?_
  unfold Builtin.Dict.dictSlotNone
  refine wpAny_bind (wpAny_notOrdered_dict hT ?_)
  show wpAny _ _ (pure (Value.ref d)) _ _ s
  refine wpAny_pure ?_
  show wpAny _ _ (Builtin.Dict.showsAll d >>= _) _ _ s
  unfold Builtin.Dict.showsAll
  rw [if_neg (by rw [hd]; exact Bool.false_ne_true)]
  refine wpAny_bind (wpAny_pure ?_)
  refine wpAny_bind (wpAny_dictEntries ho hdat ?_)
  refine wpAny_bind (wpAny_dictEpoch ho hdat ?_)
  refine wpAny_bind (wpAny_newObj_type (wpAny_pure ⟨_, rfl, "dict_keyiterator", _, ⟨_, Heap.get?_push_size _ rfl, rfl⟩, F.slot_dict_keyiterator_next.lookup, ?_⟩))
  simpa [rawInt] using hQ
theorem raw_next {e : DictEntry} {Q : Option Value -> Shared -> Prop} (hit : s.heap.IsKeyIter it d i es.size ep) (hm : DicAt s.heap d es ep) (hx : es[i]? = some e)
    (hQ : ∀ h', h'.IsKeyIter it d (i + 1) es.size ep -> Heap.SameBut it s.heap h' -> Q (some e.key) { s with heap := h' }) : wpAny (model prog w) A (pyNext (.ref it)) Q E s := by
  refine ob13 (id hit) fun o ho hc hd => ?_
  refine ob13 (id hm) fun od hod hcd hdd => ?_
  unfold pyNext
  refine wpAny_bind (wpAny_attempt (wpAny_callSpecial?_slot (name := Str.ofString "__next__") hit.typeIs F.slot_dict_keyiterator_next
    (wpAny_call_entry F.slot_dict_keyiterator_next hit.typeIs F.entry_dict_keyiterator_next ?_ (F.args_dict_keyiterator_next_1 _))))
  refine wpAny_bind (wpAny_pure ?_)
  refine wpAny_bind ?_
  refine wpAny_bind ?_
  first | refine wpAny_bind (wpAny_typeNameOfWhole_keyiter hit.typeIs (wpAny_pure ?_)) | refine wpAny_bind (wpAny_typeNameOf_keyiter hit.typeIs (wpAny_pure ?_))
  refine wpAny_bind (wpAny_fieldsOf ho hd ?_)
  show wpAny _ _ (if (Value.ref d == Value.none) = true then _ else _) _ _ s
  rw [if_neg (show ¬ ((Value.ref d == Value.none) = true) from Bool.false_ne_true)]
  refine wpAny_bind (wpAny_pure ?_)
  refine wpAny_bind (wpAny_dictEntries hod hdd ?_)
  rw [if_neg (by simp)]
  refine wpAny_bind (wpAny_pure ?_)
  refine wpAny_bind (wpAny_dictEpoch hod hdd ?_)
  rw [if_neg (by simp)]
  refine wpAny_pure ?_
  refine ob11 (Array.getElem?_eq_some_iff.mp hx) fun hlt he => ?_
  simp only [show ¬ ((i : Int) < 0) from by lia, if_false, Int.toNat_natCast, Array.getElem?_eq_getElem hlt]
  refine wpAny_bind ?_
  first | refine wpAny_bind (wpAny_typeNameOfWhole_keyiter hit.typeIs (wpAny_pure ?_)) | refine wpAny_bind (wpAny_typeNameOf_keyiter hit.typeIs (wpAny_pure ?_))
  refine wpAny_bind (wpAny_isOneOf_keyiter hit.typeIs ?_)
  show wpAny _ _ (setField (.ref it) 1 (rawInt ((i : Int) + 1)) >>= _) _ _ s
  refine wpAny_bind (wpAny_setField ho hd (by simp) ?_)
  have hit' : (s.heap.update it (Obj.mapFields (·.setIfInBounds 1 (rawInt ((i : Int) + 1))))).IsKeyIter it d (i + 1) es.size ep :=
    ⟨_, Heap.get?_update_self _ ho (Obj.isFreed_of_fields (Obj.data_mapFields hd _)), (Obj.cls_mapFields ..).trans hc, by rw [Obj.data_mapFields hd]; simp [rawInt]⟩
  refine wpAny_bind (wpAny_holding ?_)
  refine wpAny_bind (wpAny_isOneOf_keyiter (s := { s with heap := s.heap.update it (Obj.mapFields (·.setIfInBounds 1 (rawInt ((i : Int) + 1)))) }) hit'.typeIs ?_)
  show wpAny _ _ (pure es[i].key) _ _ _
  rw [he]
  exact wpAny_pure (wpAny_pure ⟨_, rfl, wpAny_pure (hQ _ hit' (Heap.SameBut.update ..))⟩)
theorem raw_end {Q : Option Value -> Shared -> Prop} (hh : A.handled = none) (hit : s.heap.IsKeyIter it d es.size es.size ep) (hm : DicAt s.heap d es ep)
    (hQ : ∀ h', Heap.ExtBut it s.heap h' -> Q none { s with heap := h' }) : wpAny (model prog w) A (pyNext (.ref it)) Q E s := by
  refine ob13 (id hit) fun o ho hc hd => ?_
  refine ob13 (id hm) fun od hod hcd hdd => ?_
  unfold pyNext
  refine wpAny_bind (wpAny_attempt (wpAny_callSpecial?_slot (name := Str.ofString "__next__") hit.typeIs F.slot_dict_keyiterator_next
    (wpAny_call_entry F.slot_dict_keyiterator_next hit.typeIs F.entry_dict_keyiterator_next ?_ (F.args_dict_keyiterator_next_1 _))))
  refine wpAny_bind (wpAny_pure ?_)
  refine wpAny_bind ?_
  refine wpAny_bind ?_
  first | refine wpAny_bind (wpAny_typeNameOfWhole_keyiter hit.typeIs (wpAny_pure ?_)) | refine wpAny_bind (wpAny_typeNameOf_keyiter hit.typeIs (wpAny_pure ?_))
  refine wpAny_bind (wpAny_fieldsOf ho hd ?_)
  show wpAny _ _ (if (Value.ref d == Value.none) = true then _ else _) _ _ s
  rw [if_neg (show ¬ ((Value.ref d == Value.none) = true) from Bool.false_ne_true)]
  refine wpAny_bind (wpAny_pure ?_)
  refine wpAny_bind (wpAny_dictEntries hod hdd ?_)
  rw [if_neg (by simp)]
  refine wpAny_bind (wpAny_pure ?_)
  refine wpAny_bind (wpAny_dictEpoch hod hdd ?_)
  rw [if_neg (by simp)]
  refine wpAny_pure ?_
  simp only [show ¬ ((es.size : Int) < 0) from by lia, if_false, Int.toNat_natCast, Array.getElem?_eq_none (Nat.le_refl _)]
  refine wpAny_bind ?_
  first | refine wpAny_bind (wpAny_typeNameOfWhole_keyiter hit.typeIs (wpAny_pure ?_)) | refine wpAny_bind (wpAny_typeNameOf_keyiter hit.typeIs (wpAny_pure ?_))
  show wpAny _ _ (setField (.ref it) 0 .none >>= _) _ _ s
  refine wpAny_bind (wpAny_setField ho hd (by simp) ?_)
  show wpAny _ _ (newExc (.type "StopIteration") [] >>= _) _ _ _
  refine wpAny_bind ?_
  simp only [newExc, newTuple]
  refine wpAny_bind (wpAny_newObj_type ?_ (by size_fits))
  refine wpAny_bind (m := firstArgMember _ _) (wpAny_of_eq (a := Value.none) (by first | rfl | (simp only [firstArgMember]; rfl)) ?_)
  refine wpAny_newObj_type ?_ (by size_fits)
  simp only [raiseNew]
  refine wpAny_bind (wpAny_handled ?_)
  rw [show A.in1.handled = none from hh]
  refine wpAny_bind (wpAny_pure (wpAny_throw ?_))
  refine wpAny_bind (wpAny_isInstance (T := "StopIteration") (b := true) ⟨_, Heap.get?_push_size _ rfl, rfl⟩ isSubtype_stop ?_)
  exact wpAny_pure (hQ _ (((Heap.SameBut.update ..).extBut.push _).push _))
theorem raw_walks (hh : A.handled = none) (I d : Addr) (hne : d ≠ I) (es : Array DictEntry) (ep : Nat) :
    Walks prog w A I [I, d] [I] es.size (fun i v => ∃ e, es[i]? = some e /\ v = e.key) (fun i h => h.IsKeyIter I d i es.size ep /\ DicAt h d es ep) where
  sub := fun b hb => by simp at hb; simp [hb]
  frame := fun _ _ _ st hk => ⟨st.1.at fun o e => hk I (by simp) o e, st.2.at fun o e => hk d (by simp) o e⟩
  item := fun i s Q E hi st hQ => by
    have hx : es[i]? = some es[i] := by simp [hi]
    refine raw_next st.1 st.2 hx fun h' hit' hs' => ?_
    exact hQ _ h' s.toks ⟨_, hx, rfl⟩ ⟨hit', st.2.at fun o e => (hs'.2 d hne).trans e⟩ fun b o hb e => hs'.extBut b o (fun h => hb (by simp [h])) e
  done := fun s Q E st hQ => raw_end hh st.1 st.2 fun h' he' => hQ h' s.toks fun b o hb e => he' b o (fun h => hb (by simp [h])) e
  self := fun _ _ _ _ st hQ => wpAny_pyIter_keyiter st.1 hQ
theorem raw_src (lo : (d == sysModules) = false) : PySem.W.KdlSrc prog w "dict" d d es.size (fun i v => ∃ e, es[i]? = some e /\ v = e.key) (fun h => DicAt h d es ep) where
  type := fun _ hm => hm.type
  there := fun _ hm => let ⟨_, ho, _⟩ := hm; ⟨Heap.lt_size ho, Heap.lt_size ho⟩
  keep := fun _ _ hm hk => hm.at fun o e => hk d (.inl rfl) o e
  notList := by decide
  notTuple := by decide
  hint := fun _ _ _ _ hm hq => PySem.W.kdl_hint_dict hm.type hq
  iter := fun _ _ hh hm => ⟨_, _, (fun _ _ hq => raw_iter lo hm hq), raw_walks hh _ d (let ⟨_, ho, _⟩ := hm; Nat.ne_of_lt (Heap.lt_size ho)) es ep, ⟨⟨_, Heap.get?_push_size _ rfl, rfl, rfl⟩, hm.at fun o e => Heap.get?_push_of_some _ e⟩⟩
end
section
variable {G : Glo} {fs : List Env} {A : Around} {H : Hid} {S : Store} {s : Shared} {a : Addr} {hp : Bool} {kvs : List (Kd × D)}
theorem keysH {P : Params} {h : Heap} : ∀ {xs : List (Kd × Addr × Value)} {ps : List (Kd × D)}, TabH P H h xs ps -> RdAll P H h (xs.map fun x => Value.ref x.2.1) (ps.map fun p => kdD p.1)
  | [], [], _ => .nil
  | _ :: _, _ :: _, ⟨⟨_, q2, _⟩, q4⟩ => .cons q2 (keysH q4)
  | [], _ :: _, q => q.elim
  | _ :: _, [], q => q.elim
theorem rd_oi {P : Params} {h : Heap} {o : Option Int} {v : Value} (i : isOI o v = true) : Rd P H h v (kdD (oiK o)) := by
  cases o with
  | none => cases isOI_none i; exact .none
  | some j => refine ob11 (isOI_some i) fun t er1 => ?_; subst er1; exact .int j t
theorem keysI {P : Params} {h : Heap} : ∀ {es : List DictEntry} {xs : List (Option Int × Value)} {ps : List (Kd × D)}, Pairs (oiKind G.prog G.w) es xs -> TabI P H h xs ps -> RdAll P H h (es.map (·.key)) (ps.map fun p => kdD p.1)
  | _, _, [], .nil, _ => .nil
  | _, _, p :: _, .cons a b c, q => by
    obtain ⟨⟨q1, _⟩, q4⟩ := q
    refine .cons ?_ (keysI c q4)
    show Rd P H h _ (kdD p.1)
    rw [<- q1]; exact rd_oi a
  | _, _, _ :: _, .nil, q => q.elim
  | _, _, [], .cons .., q => q.elim
theorem tab_dic (hT : SAt G H s.heap a (.tab hp kvs)) : ∃ es ep, DicAt s.heap a es ep /\ RdAll G.P H s.heap (es.toList.map (·.key)) (kvs.map fun p => kdD p.1) := by
  refine ob02 hT fun _ hT => ?_
  cases hp with
  | true =>
    obtain ⟨xs, ⟨o, es, ep, ho, hc, hd, he, hi, hn⟩, q⟩ := hT
    refine mk22 es ep ⟨o, ho, hc, hd⟩ ?_
    rw [he, List.map_map]
    exact keysH q
  | false =>
    obtain ⟨xs, ⟨o, es, ep, ho, hc, hd, he, hi, hn⟩, q⟩ := hT
    exact mk22 es ep ⟨o, ho, hc, hd⟩ (keysI hi q)
theorem tab_list (hh : A.handled = none) (I : Inv G fs H S s) (C : Cfg) (pos : Pos) (hT : SAt G H s.heap a (.tab hp kvs)) (hz : kvs.length <= 1000) :
    wpAny G.M A (call (.type "list") [.ref a]) (PV G fs (RR G) H s.heap (mkList C pos (kvs.map fun p => kdD p.1) S)) NoE s := by
  refine ob22 (tab_dic hT) fun es ep hd hr => ?_
  have hl : es.size = kvs.length := by have := hr.length; simpa using this
  have h1000 : kvs.length <= sizeLine := Nat.le_trans hz (by decide)
  refine PySem.W.kdl_call (raw_src (ep := ep) (beq_false_of_ne hT.1)) hh hd (by rw [hl]; exact h1000) fun h' tk acc' c' hk hS' hacc => ?_
  have ha : acc'.toList = es.toList.map (·.key) := by
    refine List.ext_getElem? fun j => ?_
    rw [List.getElem?_map, Array.getElem?_toList, Array.getElem?_toList]
    cases hj : acc'[j]? with
    | none =>
      have : es.size <= j := by rw [<- hacc.1]; simpa using hj
      rw [Array.getElem?_eq_none this]; rfl
    | some v =>
      refine ob12 (hacc.2 j v hj) fun e e1 e2 => ?_
      rw [e1, e2]; rfl
  have := newListAt (tk := tk) (c := c') (vs := acc'.toList) I (ha ▸ hr) (by rw [Array.length_toList, hacc.1, hl]; exact h1000) C pos hk (Nat.le_refl _) (by simpa using hS')
  exact this
end
end Mine
end

section
namespace Mine
open PySem
theorem size_upd (h : Heap) (a : Addr) (f : Obj -> Obj) : (h.update a f).objs.size = h.objs.size := Heap.size_after_update ..
theorem runs_size {M : Model} {Γ : Ctx} {p : Pos} {t : Sem Fin} {fs : List Frame} {s s' : Shared} {e : End} (h : Runs M Γ p t fs s e s') : s.heap.objs.size <= s'.heap.objs.size := by
  induction h <;> (try simp only [Shared.setGen, size_upd, Heap.size_push] at *) <;> lia
theorem returns_size {M : Model} {Γ : Ctx} {p : Pos} {s s' : Shared} {r : Result} (h : Returns M Γ p s r s') : s.heap.objs.size <= s'.heap.objs.size := runs_size h
theorem wakes_size {M : Model} {Γ : Ctx} {p : Pos} {g : Nat} {r : Resume} {s s' : Shared} {res : GenResult} (h : Wakes M Γ p g r s res s') : s.heap.objs.size <= s'.heap.objs.size := by
  unfold Wakes at h
  split at h
  · exact h.elim
  · split at h
    · refine ob24 h fun e₁ s₁ hr _ _ er1 => ?_; clear h; subst er1; exact (runs_size hr : (s.setGen g .running).heap.objs.size <= s₁.heap.objs.size)
    · rw [h.2]; exact Nat.le_refl _
    · rw [h.2]; exact Nat.le_refl _
  · refine ob24 h fun e₁ s₁ hr _ _ er1 => ?_; clear h; subst er1; exact (runs_size hr : (s.setGen g .running).heap.objs.size <= s₁.heap.objs.size)
  · rw [h.2]; exact Nat.le_refl _
  · rw [h.2]; exact Nat.le_refl _
theorem wp_size {α : Type} (M : Model) (Γ : Ctx) (n : Nat) (t : Sem α) : ∀ (Q : α -> Pos -> Shared -> Prop) (E : Value -> Pos -> Shared -> Prop) (p : Pos) (s : Shared), n <= s.heap.objs.size -> Sem.wp M Γ t Q E p s ->
    Sem.wp M Γ t (fun a p' s' => n <= s'.heap.objs.size /\ Q a p' s') (fun e p' s' => n <= s'.heap.objs.size /\ E e p' s') p s := by
  induction t with
  | pure a => intro Q E p s hn h; exact ⟨hn, h⟩
  | raise e => intro Q E p s hn h; exact ⟨hn, h⟩
  | unsupported _ => intro Q E p s _ h; exact h
  | finish _ => intro Q E p s _ h; exact h
  | rule _ k ih => intro Q E p s hn h; exact ih () Q E p s hn h
  | «at» p' k ih => intro Q E p s hn h; exact ih () Q E p' s hn h
  | load a _ k ih => intro Q E p s hn h; refine ob12 h fun o ho h => ?_; exact mk12 o ho (ih o Q E p s hn h)
  | update a _ f k ih => intro Q E p s hn h; exact ⟨h.1, ih () Q E p _ (by show n <= (s.heap.update a f).objs.size; rw [size_upd]; exact hn) h.2⟩
  | loadIfAlive a k ih => intro Q E p s hn h; exact ih _ Q E p s hn h
  | point _ k ih => intro Q E p s hn h; exact ih () Q E p s hn h
  | register _ _ => intro Q E p s _ h; exact h
  | alloc o k ih => intro Q E p s hn h; exact ih _ Q E p _ (by show n <= (s.heap.push o).objs.size; rw [Heap.size_push]; exact Nat.le_succ_of_le hn) h
  | fresh k ih => intro Q E p s hn h; exact ih _ Q E p _ hn h
  | ask k ih => intro Q E p s hn h; exact ih _ Q E p s hn h
  | choose src m k ih => intro Q E p s hn h; exact ⟨h.1, ih _ Q E p _ hn h.2⟩
  | os q _ k ih => intro Q E p s hn h; exact ih _ Q E p _ hn h
  | call c hd _ _ k ih => intro Q E p s hn h; refine ob22 h fun r s' hr h => ?_; exact mk22 r s' hr (ih r Q E p s' (Nat.le_trans hn (returns_size hr)) h)
  | handled own k ih => intro Q E p s hn h; exact ih _ Q E p s hn h
  | genState g k ih => intro Q E p s hn h; refine ob12 h fun st hs h => ?_; exact mk12 st hs (ih _ Q E p s hn h)
  | newGen c k ih => intro Q E p s hn h; exact ih _ Q E p _ hn h
  | resume g r _ k ih => intro Q E p s hn h; refine ob22 h fun res s' hw h => ?_; exact mk22 res s' hw (ih res Q E p s' (Nat.le_trans hn (wakes_size hw)) h)
  | yield _ _ _ _ => intro Q E p s _ h; exact h
  | stack k ih => intro Q E p s hn h; exact ih _ Q E p s hn h
  | fork _ _ => intro Q E p s _ h; exact h
  | thread k ih => intro Q E p s hn h; exact ih _ Q E p s hn h
  | await _ _ _ _ _ => intro Q E p s _ h; exact h
theorem wpAny_size {α : Type} {M : Model} {A : Around} {s : Shared} {t : Sem α} {Q : α -> Shared -> Prop} {E : Value -> Shared -> Prop} (h : wpAny M A t (fun a s' => s.heap.objs.size <= s'.heap.objs.size -> Q a s') (fun e s' => s.heap.objs.size <= s'.heap.objs.size -> E e s') s) :
    wpAny M A t Q E s := fun Γ p hΓ =>
  Sem.wp_mono M Γ t (fun _ _ _ x => x.2 x.1) (fun _ _ _ x => x.2 x.1) p s (wp_size M Γ _ t _ _ p s (Nat.le_refl _) (h Γ p hΓ))
end Mine
end

section
namespace Mine
open PySem
noncomputable def bfVal : Bf -> Value
  | .len => .builtin "len"
  | .range => .type "range"
  | .all => .builtin "all"
  | .tuple => .type "tuple"
  | .list => .type "list"
  | .int => .type "int"
section
variable {G : Glo} {fs : List Env} {A : Around} {H : Hid} {S : Store} {s : Shared} {n : Nat}
theorem RdAll.one {P : Params} {h : Heap} {vs : List Value} {d : D} (r : RdAll P H h vs [d]) : ∃ v, vs = [v] /\ Rd P H h v d := by
  cases r with | cons a b => cases b; exact mk12 _ rfl a
theorem RdAll.two {P : Params} {h : Heap} {vs : List Value} {d e : D} (r : RdAll P H h vs [d, e]) : ∃ v u, vs = [v, u] /\ Rd P H h v d /\ Rd P H h u e := by
  cases r with | cons a b => cases b with | cons b c => cases c; exact mk23 _ _ rfl a b
set_option tactic.hygienic true in
theorem len_ok (I : Inv G fs H S s) {v : Value} {a : D} (r : Rd G.P H s.heap v a) : Wp G fs A (RR G) H S s (call (.builtin "len") [v]) (lenM a) := by
  intro hne
  have viaList : ∀ {ds : List D}, listOf S a = some ds -> wpAny G.M A (call (.builtin "len") [v]) (PV G fs (RR G) H s.heap (Out.ok (.int ds.length) S)) NoE s := by
    intro ds hl
    refine ob34 (listOf_ok I r hl) fun x vs m er1 e2 e3 e4 => ?_; subst er1
    refine PyProof.Rows.len_list (Rd.isList e2) (line63 e3) ?_
    have l := e4.length
    simp only [Array.length_toList] at l
    rw [l]
    exact mk34 _ S H rfl Ext.refl I.toks (.int _ _)
  unfold lenM at hne ⊢
  cases r with
  | tuple a1 a2 a3 a4 a5 =>
    rename_i b vs m ds
    refine PyProof.Rows.len_tuple (Rd.isTup a3) (line63 a4) ?_
    have l := a5.length
    simp only [Array.length_toList] at l
    rw [l]
    exact mk34 _ S H rfl Ext.refl I.toks (.int _ _)
  | list a1 a2 a3 a4 a5 => exact viaList rfl
  | loc q =>
    dsimp only at hne ⊢
    split at hne
    · rename_i ds hl; exact viaList hl
    · exact absurd rfl hne
  | _ => exact absurd rfl hne
theorem strsOf_cons {d : D} {ds : List D} {xs : List Str} (h : strsOf (d :: ds) = some xs) : ∃ x ys, d = .str x /\ strsOf ds = some ys /\ xs = x :: ys := by
  cases d with
  | str x =>
    cases hs : strsOf ds with
    | none => unfold strsOf at h; rw [hs] at h; cases h
    | some ys => unfold strsOf at h; rw [hs] at h; exact mk23 x ys rfl rfl (Option.some.inj h).symm
  | _ => cases h
theorem boolsOf_cons {d : D} {ds : List D} {xs : List Bool} (h : boolsOf (d :: ds) = some xs) : ∃ x ys, d = .bool x /\ boolsOf ds = some ys /\ xs = x :: ys := by
  cases d with
  | bool x =>
    cases hs : boolsOf ds with
    | none => unfold boolsOf at h; rw [hs] at h; cases h
    | some ys => unfold boolsOf at h; rw [hs] at h; exact mk23 x ys rfl rfl (Option.some.inj h).symm
  | _ => cases h
theorem strsOf_rd {P : Params} {h : Heap} {vs : List Value} {ds : List D} (r : RdAll P H h vs ds) : ∀ {xs : List Str}, strsOf ds = some xs ->
    ∃ l : List (Str × Tok), vs = strValues l /\ l.map (·.1) = xs /\ ∀ x ∈ xs, PyData.strOk x = true :=
  RdAll.ind (M := fun vs ds => ∀ {xs : List Str}, strsOf ds = some xs -> ∃ l : List (Str × Tok), vs = strValues l /\ l.map (·.1) = xs /\ ∀ x ∈ xs, PyData.strOk x = true)
    (fun e => ⟨[], rfl, (Option.some.inj e).symm ▸ rfl, fun _ m => nomatch (Option.some.inj e).symm ▸ m⟩) (fun {_ _ _ _} a _ q {xs} e => by
    refine ob23 (strsOf_cons e) fun x ys e1 e2 e3 => ?_
    rw [e1] at a
    refine ob13 (q e2) fun l l1 l2 l3 => ?_
    cases a with | str _ t hx _ =>
    refine mk13 ((x, t) :: l) (congrArg (Value.str x t :: ·) l1) (by rw [e3, <- l2]; rfl) fun y hy => ?_
    rw [e3] at hy
    exact (List.mem_cons.mp hy).elim (fun q => q ▸ hx) (l3 y)) r
theorem boolsOf_rd {P : Params} {h : Heap} {vs : List Value} {ds : List D} (r : RdAll P H h vs ds) : ∀ {bs : List Bool}, boolsOf ds = some bs -> vs = bs.map .bool :=
  RdAll.ind (M := fun vs ds => ∀ {bs : List Bool}, boolsOf ds = some bs -> vs = bs.map .bool) (fun e => (Option.some.inj e).symm ▸ rfl) (fun {_ _ _ _} a _ q {bs} e => by
    refine ob23 (boolsOf_cons e) fun x ys e1 e2 e3 => ?_
    rw [e1] at a
    rw [e3, q e2]
    cases a; rfl) r
theorem all_ok (hh : A.handled = none) (I : Inv G fs H S s) {a : Addr} {vs : Array Value} {m : Nat} {bs : List Bool} (e : s.heap.get? a = some (lstO vs m)) (hb : vs.toList = bs.map .bool) {Q : Value -> Shared -> Prop} {E : Value -> Shared -> Prop}
    (hQ : ∀ h' tk, (∀ b o, s.heap.get? b = some o -> h'.get? b = some o) -> s.heap.objs.size <= h'.objs.size -> Q (.bool (bs.all id)) { s with heap := h', toks := tk }) : wpAny G.M A (call (.builtin "all") [.ref a]) Q E s := by
  refine wpAny_size (call_all_walk (wpAny_pyIter_list (Rd.isList e) ?_))
  have hlt := Heap.lt_size e
  have hne : a ≠ s.heap.objs.size := Nat.ne_of_lt hlt
  refine mk75 s.heap.objs.size [s.heap.objs.size, a] [s.heap.objs.size] vs.size _ _ (fun i => bs.getD i false) rfl (Walks.list (show A.in1.handled = none from hh) s.heap.objs.size a hne vs) ?_ ?_ ?_
  · exact ⟨⟨_, Heap.get?_push_size _ rfl, rfl, rfl⟩, Rd.isList (Heap.get?_push_of_some _ e)⟩
  · intro i v s' Q' E' hv hq
    have : vs.toList[i]? = some v := by rw [Array.getElem?_toList]; exact hv
    rw [hb, List.getElem?_map] at this
    cases hbi : bs[i]? with
    | none => rw [hbi] at this; cases this
    | some b =>
      rw [hbi] at this
      cases this
      refine wpAny_truthy_bool ?_
      have : bs.getD i false = b := by simp [List.getD, hbi]
      have hq' : Q' (bs.getD i false) s' := hq
      rw [this] at hq'; exact hq'
  · intro h' tk k
    have hl : vs.size = bs.length := by
      have := congrArg List.length hb
      simpa using this
    have hall : (List.range vs.size).all (fun i => bs.getD i false) = bs.all id := by
      rw [hl, Bool.eq_iff_iff]
      simp only [List.all_eq_true, List.mem_range, id]
      constructor
      · intro q x hx
        obtain ⟨i, hi, rfl⟩ := List.mem_iff_getElem.mp hx
        have := q i hi
        simpa [List.getD, hi] using this
      · intro q i hi
        have := q bs[i] (List.getElem_mem hi)
        simpa [List.getD, hi] using this
    rw [hall]
    have kk : ∀ b o, s.heap.get? b = some o -> h'.get? b = some o := fun b o e' => k b o (by simp only [List.mem_singleton]; exact Nat.ne_of_lt (Heap.lt_size e')) (Heap.get?_push_of_some _ e')
    exact fun hs => hQ h' tk kk hs
theorem rangeNew_ok (I : Inv G fs H S s) {i j : Int} {t u v tk : Nat} :
    PV G fs (RR G) H s.heap (ret (.range i j) S) (.ref s.heap.objs.size) { s with heap := s.heap.push (rngO i j t u v), toks := tk } :=
  ⟨_, S, H, rfl, Ext.push _, I.push, .range I.freshS I.freshF (Heap.get?_push_size _ rfl)⟩
theorem tupleOf_ok (I : Inv G fs H S s) {a : Addr} {vs : Array Value} {m : Nat} {ds : List D} (e : s.heap.get? a = some (lstO vs m)) (hz : vs.size <= sizeLine) (r : RdAll G.P H s.heap vs.toList ds) :
    wpAny G.M A (call (.type "tuple") [.ref a]) (PV G fs (RR G) H s.heap (Out.ok (.tuple ds) S)) NoE s := by
  refine wpAny_size (call_tuple_list (Rd.isList e) (fun h' k => ?_) hz)
  intro hs
  refine newTupleAt (tk := s.toks) (c := 0) I r (by simpa using hz) (fun b o e => Heap.get?_push_of_some _ (k b o e)) hs ?_ (by simpa using Heap.get?_push_size h' rfl)
  cases hq : s.heap.get? h'.objs.size with
  | none => rfl
  | some o => exact absurd (Heap.lt_size (k _ _ hq)) (Nat.lt_irrefl _)
theorem on1_ok {m : Sem Value} {vs : List Value} {ds : List D} {k : D -> EM D} (r : RdAll G.P H s.heap vs ds) (h : ∀ v a, vs = [v] -> Rd G.P H s.heap v a -> Wp G fs A (RR G) H S s m (k a)) : Wp G fs A (RR G) H S s m (on1 ds k) := by
  unfold on1
  split
  · refine ob12 r.one fun v e q => ?_
    exact h v _ e q
  · exact Wp.stk
theorem rangeM_ok (I : Inv G fs H S s) {vs : List Value} {ds : List D} (r : RdAll G.P H s.heap vs ds) : Wp G fs A (RR G) H S s (call (bfVal .range) vs) (rangeM ds) := by
  unfold rangeM
  match ds, r with
  | [], _ => exact Wp.stk
  | [b], r =>
    refine ob12 r.one fun v er1 q => ?_; subst er1
    show Wp G fs A (RR G) H S s _ (range1M b)
    unfold range1M
    split
    · refine ob11 q.int_inv fun t er1 => ?_; subst er1
      exact fun _ => call_range_1 (rangeNew_ok I)
    · exact Wp.stk
  | [a, b], r =>
    refine ob23 r.two fun v u er1 q q' => ?_; subst er1
    exact onInts_ok q q' (fun i j t t' _ _ e e' _ => by rw [e, e']; exact call_range_2 (rangeNew_ok I)) Wp.stk
  | _ :: _ :: _ :: _, _ => exact Wp.stk
theorem listCall_ok (I : Inv G fs H S s) (C : Cfg) (pos : Pos) {x : Addr} {o : Obj} {vs : Array Value} {n : Nat} {ds : List D} {cn : String} (hc : cn = "list" \/ cn = "tuple") (e : s.heap.get? x = some o) (h1 : o.cls = .type cn) (h2 : o.data = .seq vs n) (hz : vs.size <= sizeLine) (r : RdAll G.P H s.heap vs.toList ds) :
    Wp G fs A (RR G) H S s (call (bfVal .list) [.ref x]) (mkList C pos ds) := fun _ =>
  call_list_seq _ hc e h1 h2 (fun h' c' k hg => by
    have := newListAt (tk := s.toks) I r (by simpa using hz) C pos k (Nat.le_refl _) (c := c') (by simpa using hg)
    exact this) hz
theorem bf_ok (c : Cxt G fs A n) (I : Inv G fs H S s) {vs : List Value} {ds : List D} (r : RdAll G.P H s.heap vs ds) (C : Cfg) (pos : Pos) (b : Bf) :
    Wp G fs A (RR G) H S s (call (bfVal b) vs) (bfM C pos b ds) := by
  cases b with
  | len => exact on1_ok r fun v a e q => by rw [e]; exact len_ok I q
  | range => exact rangeM_ok I r
  | all =>
    refine on1_ok r fun v a e q => onList_ok I q fun x vs n ds e1 e2 e3 e4 hne => ?_
    rw [e, e1]
    cases hb : boolsOf ds with
    | none => rw [hb] at hne; exact absurd rfl hne
    | some bs => exact all_ok c.handled I e2 (boolsOf_rd e4 hb) fun h' tk k hs => mk34 _ S H rfl (Ext.of_keeps k hs) (I.grow k) (.bool _)
  | tuple =>
    refine on1_ok r fun v a e q => onTup_ok q (fun x vs n ds e1 e2 e3 e4 q0 _ => ?_) (onList_ok I q fun x vs n ds e1 e2 e3 e4 _ => ?_)
    · rw [e, e1]; rw [e1] at q0; exact PyProof.Rows.call_tuple_tup (Rd.isTup e2) ⟨_, S, H, rfl, Ext.refl, I, q0⟩
    · rw [e, e1]; exact tupleOf_ok I e2 e3 e4
  | list =>
    refine on1_ok r fun v a e q => ?_
    intro hne
    unfold listB at hne ⊢
    cases ht : tabOf S a with
    | some t =>
      rw [ht] at hne
      dsimp only at hne ⊢
      by_cases hz : t.2.length <= 1000
      · rw [if_pos hz]
        refine ob25 (tab_at I q ht) fun n x er1 hS er2 ha hT => ?_; subst er1; subst er2
        rw [e]
        exact tab_list c.handled I C pos hT hz
      · rw [if_neg hz] at hne; exact absurd rfl hne
    | none =>
    rw [ht] at hne
    dsimp only at hne ⊢
    revert hne
    refine onTup_ok q (fun x vs n ds e1 e2 e3 e4 q0 => ?_) (onList_ok I q fun x vs n ds e1 e2 e3 e4 => ?_)
    · rw [e, e1]; exact listCall_ok I C pos (.inr rfl) e2 rfl rfl e3 e4
    · rw [e, e1]; exact listCall_ok I C pos (.inl rfl) e2 rfl rfl e3 e4
  | int =>
    refine on1_ok r fun v a e q => ?_
    unfold intM
    split
    · cases q; rw [e]; exact fun _ => call_int_bool (PV.int I)
    · exact Wp.stk
end
end Mine
end

section
namespace Mine
open PySem
section
variable {G : Glo} {fs : List Env} {A : Around} {H : Hid} {S : Store} {s : Shared} {n : Nat}
theorem strOk_join {sep : Str} (hs : PyData.strOk sep = true) : ∀ xs : List Str, (∀ x ∈ xs, PyData.strOk x = true) -> PyData.strOk (Str.join sep xs) = true
  | [], _ => by unfold Str.join; decide +kernel
  | [x], h => h x (by simp)
  | x :: y :: r, h => by
    show PyData.strOk (x ++ sep ++ Str.join sep (y :: r)) = true
    exact strOk_append (strOk_append (h x (by simp)) hs) (strOk_join hs (y :: r) fun z hz => h z (by simp only [List.mem_cons] at hz ⊢; exact .inr hz))
theorem join_ok (I : Inv G fs H S s) {sep : Str} {t : Tok} {a : Addr} {vs : Array Value} {m : Nat} {ds : List D} {xs : List Str} (hsep : PyData.strOk sep = true) (e : s.heap.get? a = some (lstO vs m)) (r : RdAll G.P H s.heap vs.toList ds)
    (hx : strsOf ds = some xs) (hj : JoinOk sep xs = true) :
    wpAny G.M A (call (.builtin "str.join") [.str sep t, .ref a]) (PV G fs (RR G) H s.heap (Out.ok (.str (Txt.join sep xs)) S)) NoE s := by
  refine ob13 (strsOf_rd r hx) fun l e1 e2 e3 => ?_
  subst e2
  have hl : Builtin.Str.tooLong ((l.map (·.1)).toArray.foldl (· + ·.length + sep.length) 0) = false := by
    unfold JoinOk at hj
    simpa using hj
  refine call_meets F.slot_str_join (typeIs_str _ _ _) F.entry_str_join (F.args_str_join_2 _ _) (meets_str_join_list sep t a l hl) ⟨⟨_, e, rfl, m, ?_⟩, post_join l ⟨joinOk_length hj, fun t' k => ⟨_, S, H, rfl, Ext.refl, I.toks, .str _ _ ?_ (joinOk_length hj)⟩⟩⟩
  · show Data.seq vs m = Data.seq (strValues l).toArray m
    rw [<- e1]
  · show PyData.strOk (Builtin.Str.glued sep (l.map (·.1))) = true
    rw [StrLaws.glued_eq_join]
    exact strOk_join hsep _ e3
theorem strIndex_ok (I : Inv G fs H S s) {x y : Str} {t u : Tok} {k : Nat} (h : strIndex y x = some k) :
    wpAny G.M A (call (.builtin "str.index") [.str y t, .str x u]) (PV G fs (RR G) H s.heap (Out.ok (.int k) S)) NoE s := by
  unfold strIndex at h
  obtain ⟨rest, hr⟩ : ∃ rest, Builtin.Str.occurrences y x 0 y.length 1 = k :: rest := by
    cases ho : Builtin.Str.occurrences y x 0 y.length 1 with
    | nil => rw [ho] at h; cases h
    | cons i r => rw [ho] at h; cases h; exact mk11 r rfl
  exact call_meets F.slot_str_index (typeIs_str _ _ _) F.entry_str_index (F.args_str_index_2 _ _) (gives_str_index y x t u k rest hr).meets (by intros; exact mk34 _ S H rfl Ext.refl I.toks (.int _ _))
theorem isStrD_inv {P : Params} {h : Heap} {v : Value} {a : D} (r : Rd P H h v a) (e : isStrD a = true) : ∃ x t, v = .str x t := by
  unfold isStrD at e
  split at e
  · cases r; exact mk21 _ _ rfl
  · cases e
theorem mJoin_sound : MImpl.Sound "join" mJoin where
  find I r h := by
    refine ob21 (isStrD_inv r h) fun x t er1 => ?_; subst er1
    exact mk15 ("str") F.plainAttrs_str F.slot_str_join F.type_str_join (typeIs_str _ _ _) (fun _ q => nomatch q)
  run c I r rs := onStr_ok r (fun sep t e h1 h2 => on1_ok rs fun u b e' q => onList_ok I q fun x vs n ds e1 e2 e3 e4 hne => by
    rw [e, e', e1]
    unfold joinM at hne ⊢
    cases hx : strsOf ds with
    | none => rw [hx] at hne; exact absurd rfl hne
    | some ys =>
      rw [hx] at hne
      by_cases hj : JoinOk sep ys = true
      · dsimp only; rw [if_pos hj]; exact join_ok I h1 e2 e4 hx hj
      · dsimp only at hne; rw [if_neg hj] at hne; exact absurd rfl hne) Wp.stk
end
end Mine
end

section
namespace Mine
open PySem
section
variable {G : Glo} {fs : List Env} {A : Around} {H : Hid} {S : Store} {s : Shared} {n : Nat}
theorem list_has {a : Addr} {vs : Array Value} {m : Nat} (e : s.heap.get? a = some (lstO vs m)) : ∀ b, Value.ref a = .ref b -> ∃ ob, s.heap.get? b = some ob /\ ob.dict = none := fun b q => by cases q; exact mk12 _ e rfl
theorem indexL_spec {q : PyData} : ∀ {ps : List PyData} {k : Nat}, indexL q ps = some k -> ∃ h : k < ps.length, PyData.eqv ps[k] q = true /\ ∀ j (hj : j < ps.length), j < k -> PyData.eqv ps[j] q = false
  | [], k, h => by cases h
  | p :: r, k, h => by
    unfold indexL at h
    by_cases hp : PyData.eqv p q = true
    · rw [if_pos hp] at h; cases h
      exact mk12 (by simp) hp (fun j hj h0 => absurd h0 (Nat.not_lt_zero _))
    · rw [if_neg hp] at h
      cases hr : indexL q r with
      | none => rw [hr] at h; cases h
      | some k' =>
        rw [hr] at h; cases h
        refine ob12 (indexL_spec hr) fun h1 h2 h3 => ?_
        refine mk12 (by simpa using h1) (by simpa using h2) (fun j hj hlt => ?_)
        cases j with
        | zero => simpa using hp
        | succ j => simpa using h3 j (by simpa using hj) (Nat.lt_of_succ_lt_succ hlt)
theorem listIndex_ok (I : Inv G fs H S s) {v : Value} {a : Addr} {vs : Array Value} {m : Nat} {ds : List D} {ps : List PyData} {d : D} {q : PyData} {k : Nat} {b : Bool} (hu : A.units <= 9000) (e : s.heap.get? a = some (lstO vs m)) (hz : vs.size <= sizeLine)
    (r : RdAll G.P H s.heap vs.toList ds) (hp : D.pys ds = some ps) (rv : Rd G.P H s.heap v d) (hq : pyAt S d = some q) (ha : anyEq ps q = some b) (hk : indexL q ps = some k) :
    wpAny G.M A (call (.builtin "list.index") [.ref a, v]) (PV G fs (RR G) H s.heap (Out.ok (.int k) S)) NoE s := by
  obtain ⟨⟨as, ra⟩, ka⟩ := pys_ok _ r hp
  obtain ⟨⟨bs, rb⟩, kb⟩ := pyAt_ok rv hq
  have hd : min (PyData.depthAll ps) q.depth <= 600 := by
    unfold anyEq at ha
    by_cases hd : min (PyData.depthAll ps) q.depth <= 600
    · exact hd
    · rw [if_neg (by simpa using hd)] at ha; cases ha
  have heq := SeqAt.items_eqAt (A := A) ra rb ka kb (by show A.units + 1 + min (PyData.depthAll ps) q.depth < 9900; lia)
  have hm := SeqAt.readsAll_map ps _ _ ka ra
  refine ob12 (indexL_spec hk) fun h1 h2 h3 => ?_
  have hl : vs.size = ps.length := by rw [<- hm]; simp
  have rd : ∀ j (hj : j < vs.size) (hj' : j < ps.length), SeqAt.readOf s.heap vs[j] = ps[j] := by
    intro j hj hj'
    have : (vs.toList.map (SeqAt.readOf s.heap))[j]? = ps[j]? := by rw [hm]
    rw [List.getElem?_map, List.getElem?_eq_getElem (by simpa using hj), List.getElem?_eq_getElem hj'] at this
    simpa using this
  have hfit := line63 hz
  refine call_meets F.slot_list_index ⟨_, e, rfl⟩ F.entry_list_index (F.args_list_index_2 _ _) (SeqAt.list_indexAt a vs m none #[] v (fun y => PyData.eqv (SeqAt.readOf s.heap y) q) k (by lia) (by lia) ?_ ?_) ⟨e, heq, ⟨_, S, H, rfl, Ext.refl, I.toks, .int _ _⟩⟩
  · rw [rd k (by lia) h1]; exact h2
  · intro j hj hlt
    rw [rd j hj (by lia)]; exact h3 j (by lia) hlt
theorem lIndex_ok (X : Cxt G fs A n) (I : Inv G fs H S s) {v : Value} {a : Addr} {vs : Array Value} {m : Nat} {ds : List D} {d : D} (e : s.heap.get? a = some (lstO vs m)) (hz : vs.size <= sizeLine) (r : RdAll G.P H s.heap vs.toList ds) (rv : Rd G.P H s.heap v d) :
    Wp G fs A (RR G) H S s (call (.builtin "list.index") [.ref a, v]) (lIndex ds d) := by
  intro hne
  unfold lIndex at hne ⊢
  cases hp : D.pys ds with
  | none => rw [hp] at hne; exact absurd rfl hne
  | some ps =>
    rw [hp] at hne
    cases hq : pyAt S d with
    | none => rw [hq] at hne; exact absurd rfl hne
    | some q =>
      rw [hq] at hne
      dsimp only at hne ⊢
      cases ha : anyEq ps q with
      | none => rw [ha] at hne; exact absurd rfl hne
      | some b =>
        rw [ha] at hne
        dsimp only at hne ⊢
        cases hk : indexL q ps with
        | none => rw [hk] at hne; exact absurd rfl hne
        | some k => exact listIndex_ok I (Nat.le_trans (Nat.le_trans (Nat.le_add_right _ _) X.units) (by decide)) e hz r hp rv hq ha hk
set_option tactic.hygienic true in
theorem mIndex_sound : MImpl.Sound "index" mIndex where
  find I r h := by
    rename_i G fs H S s v a
    have h' : (isStrD a || isListD S a) = true := h
    by_cases hs : isStrD a = true
    · refine ob21 (isStrD_inv r hs) fun x t er1 => ?_; subst er1
      refine mk15 ("str") F.plainAttrs_str ?_ ?_ (typeIs_str _ _ _) (fun _ q => nomatch q)
      · show Slot "str" _ (if isStrD a = true then "str.index" else "list.index"); rw [if_pos hs]; exact F.slot_str_index
      · show typeOf (.builtin (if isStrD a = true then "str.index" else "list.index")) = _; rw [if_pos hs]; exact F.type_str_index
    · have hl : isListD S a = true := by simpa [hs] using h'
      refine ob11 (Option.isSome_iff_exists.mp hl) fun ds hl => ?_
      refine ob34 (listOf_ok I r hl) fun x vs k er1 e2 e3 e4 => ?_; subst er1
      refine mk15 ("list") F.plainAttrs_list ?_ ?_ ⟨_, e2, rfl⟩ (list_has e2)
      · show Slot "list" _ (if isStrD a = true then "str.index" else "list.index"); rw [if_neg hs]; exact F.slot_list_index
      · show typeOf (.builtin (if isStrD a = true then "str.index" else "list.index")) = _; rw [if_neg hs]; exact F.type_list_index
  run c I r rs := by
    rename_i G fs A n H S s v a vs ds
    by_cases hs : isStrD a = true
    · obtain ⟨y, rfl⟩ : ∃ y, a = .str y := by
        cases a with
        | str y => exact mk11 y rfl
        | _ => cases hs
      refine ob13 r.str_inv fun t er1 _ _ => ?_; subst er1
      show Wp _ _ _ _ _ _ _ _ (on1 ds fun b => onStr b (fun x => optM ((strIndex y x).map fun k => .int k)) stk)
      exact on1_ok rs fun u b e' q => onStr_ok q (fun x t' e1 _ _ hne => by
        rw [e', e1]
        cases hk : strIndex y x with
        | none => rw [hk] at hne; exact absurd rfl hne
        | some k => exact strIndex_ok I hk) Wp.stk
    · have ho : ∀ (k : Str -> EM D) (z : EM D), onStr a k z = z := fun k z => by
        cases a with
        | str y => exact absurd rfl hs
        | _ => rfl
      have hid : mIndex.id a = "list.index" := if_neg hs
      rw [hid]
      show Wp _ _ _ _ _ _ _ _ (on1 ds fun b => onStr a _ _)
      simp only [ho]
      exact on1_ok rs fun u b e' q => onList_ok I r fun x vs n ds e1 e2 e3 e4 => by
        rw [e', e1]
        exact lIndex_ok c I e2 e3 e4 q
end
end Mine
end

section
namespace Mine
open PySem
section
variable {G : Glo} {fs : List Env} {A : Around} {H : Hid} {S : Store} {s : Shared} {n : Nat}
theorem nodup_inj {α : Type} : ∀ {l : List α}, l.Nodup -> ∀ {i j : Nat} {a : α}, l[i]? = some a -> l[j]? = some a -> i = j
  | [], _, _, _, _, h, _ => by cases h
  | x :: r, hn, i, j, a, h, g => by
    refine ob02 (List.nodup_cons.mp hn) fun h1 h2 => ?_
    cases i with
    | zero =>
      cases j with
      | zero => rfl
      | succ j =>
        simp only [List.getElem?_cons_zero, Option.some.injEq] at h
        simp only [List.getElem?_cons_succ] at g
        subst h
        exact absurd (List.mem_of_getElem? g) h1
    | succ i =>
      cases j with
      | zero =>
        simp only [List.getElem?_cons_zero, Option.some.injEq] at g
        simp only [List.getElem?_cons_succ] at h
        subst g
        exact absurd (List.mem_of_getElem? h) h1
      | succ j =>
        simp only [List.getElem?_cons_succ] at h g
        rw [nodup_inj h2 h g]
theorem set_same {α : Type} {l : List α} {n : Nat} {a b : α} (h : l[n]? = some a) : (l.set n b)[n]? = some b := by
  rw [List.getElem?_set_self]; exact (List.getElem?_eq_some_iff.mp h).1
theorem storeSetO {k : Nat} {a : Addr} {h' : Heap} {o p : SObj} (I : Inv G fs H S s) (ha : H.ρ[k]? = some a) (hS : S[k]? = some o) (hs : Heap.SameBut a s.heap h')
    (r : Ext [] H s.heap H h' -> SAt G H h' a p) {tk : Nat} : Ext [] H s.heap H h' /\ Inv G fs H (setS S k p) { s with heap := h', toks := tk } := by
  have ham : a ∈ H.ρ := List.mem_of_getElem? ha
  have x : Ext [] H s.heap H h' := ⟨rfl, ⟨[], by simp, by simp⟩, fun b o h1 _ e => (hs.2 b (fun q => h1 (q ▸ ham))).trans e, fun b o h2 _ e => ⟨o.slots, (hs.2 b (fun q => I.off a ham (q ▸ h2))).trans e, fun _ => rfl⟩, Nat.le_of_eq hs.1.symm⟩
  refine ⟨x, ?_⟩
  have inj : ∀ j b, H.ρ[j]? = some b -> b = a -> j = k := by
    intro j b hj e
    subst e
    have hj' := List.getElem?_eq_some_iff.mp hj
    have hk' := List.getElem?_eq_some_iff.mp ha
    exact nodup_inj I.nodup hj ha
  refine ⟨fun b o e => (hs.2 b (fun q => ?_)).trans (I.stays b o e), I.newS, I.newF, I.off, fun b hb => ?_, I.nodup, by simp [setS, I.len], fun j o' e => ?_, ?_, I.gens, I.os⟩
  · rw [q, I.newS a ham] at e; cases e
  · refine ob11 (I.liveF b hb) fun o e => ?_
    exact mk11 o ((hs.2 b (fun q => I.off a ham (q ▸ hb))).trans e)
  · by_cases hj : j = k
    · subst hj
      rw [setS, set_same hS] at e
      cases e
      exact mk12 a ha (r x)
    · rw [setS, List.getElem?_set_ne (Ne.symm hj)] at e
      refine ob12 (I.objs j o' e) fun b e1 e2 => ?_
      exact mk12 b e1 (e2.step x fun ob q => (hs.2 b (fun q => hj (inj j b e1 q))).trans q)
  · exact I.fa.step (fun _ q => q) fun b o hb e => mk12 o ((hs.2 b (fun q => I.off a ham (q ▸ hb))).trans e) (fun q => q)
theorem storeSet {k : Nat} {a : Addr} {ds : List D} {vs : Array Value} {m : Nat} {h' : Heap} {o : SObj} (I : Inv G fs H S s) (ha : H.ρ[k]? = some a) (hS : S[k]? = some o) (hs : Heap.SameBut a s.heap h') (hg : h'.get? a = some (lstO vs m)) (hz : vs.size <= sizeLine)
    (r : RdAll G.P H s.heap vs.toList ds) {tk : Nat} : Ext [] H s.heap H h' /\ Inv G fs H (setS S k (.list ds)) { s with heap := h', toks := tk } :=
  storeSetO (p := .list ds) I ha hS hs fun x => mk23 vs m hg hz (r.step x)
theorem append_ok (I : Inv G fs H S s) {k : Nat} {a : Addr} {v : Value} {d : D} {ds : List D} (ha : H.ρ[k]? = some a) (hS : S[k]? = some (.list ds)) (rv : Rd G.P H s.heap v d) (hz : ds.length < sizeLine) :
    wpAny G.M A (call (.builtin "list.append") [.ref a, v]) (PV G fs (RR G) H s.heap (Out.ok .none (setS S k (.list (ds ++ [d]))))) NoE s := by
  obtain ⟨a', e1, vs, m, e2, e3, e4⟩ := I.objs k _ hS
  rw [ha] at e1; cases e1
  have hl := e4.length
  simp only [Array.length_toList] at hl
  refine call_meets F.slot_list_append ⟨_, e2, rfl⟩ F.entry_list_append (F.args_list_append_2 _ _) (PySem.list_append a vs m v e3) ⟨e2, ?_⟩
  refine ob02 (storeSet (tk := s.toks) (vs := vs.push v) (ds := ds ++ [d]) I ha hS (Heap.SameBut.update s.heap a _) (IsL.update e2 fun xs => xs.push v) (by simp; lia) (by simpa using e4.append (.cons rv .nil))) fun x J => ?_
  exact mk34 _ _ H rfl x J .none
set_option tactic.hygienic true in
theorem isLocL_inv {a : D} (h : isLocL S a = true) : ∃ n ds, a = .loc n /\ S[n]? = some (.list ds) := by
  unfold isLocL at h
  split at h
  · rename_i n
    split at h
    · rename_i ds e; exact mk22 n ds rfl e
    · cases h
  · cases h
set_option tactic.hygienic true in
theorem mAppend_sound : MImpl.Sound "append" mAppend where
  find I r h := by
    refine ob22 (isLocL_inv h) fun k ds er1 hS => ?_; subst er1
    cases r with | loc ha =>
    obtain ⟨a', e1, vs, m, e2, e3, e4⟩ := I.objs k _ hS
    rw [ha] at e1; cases e1
    exact mk15 ("list") F.plainAttrs_list F.slot_list_append F.type_list_append ⟨_, e2, rfl⟩ (list_has e2)
  run c I r rs := on1_ok rs fun u b e q hne => by
    rw [e]
    unfold appendM at hne ⊢
    split at hne
    · rename_i k
      cases r with | loc ha =>
      split at hne
      · rename_i ds hS
        by_cases hz : ds.length < sizeLine
        · rw [if_pos hz]; exact append_ok I ha hS q hz
        · rw [if_neg hz] at hne; exact absurd rfl hne
      · exact absurd rfl hne
    · exact absurd rfl hne
end
end Mine
end

section
namespace Mine
open PySem
noncomputable def LeS (x y : Str) : Prop := ¬ y.cps.toList < x.cps.toList
theorem LeS.total (x y : Str) : LeS x y \/ LeS y x := by
  unfold LeS
  rcases List.le_total x.cps.toList y.cps.toList with h | h
  · exact .inl (List.not_lt.mpr h)
  · exact .inr (List.not_lt.mpr h)
theorem LeS.trans {x y z : Str} (h : LeS x y) (g : LeS y z) : LeS x z := by
  unfold LeS at *
  rw [List.not_lt] at *
  exact List.le_trans h g
theorem LeS.antisymm {x y : Str} (h : LeS x y) (g : LeS y x) : x = y := by
  unfold LeS at *
  rw [List.not_lt] at *
  have := List.le_antisymm h g
  cases x; cases y
  simp only at this
  rw [Array.toList_inj] at this
  rw [this]
theorem leS_iff {x y : Str} : leS x y = true ↔ LeS x y := by unfold leS LeS; simp
theorem insS_perm (x : Str) : ∀ l : List Str, (insS x l).Perm (x :: l)
  | [] => .refl _
  | y :: r => by
    unfold insS
    split
    · exact .refl _
    · exact ((insS_perm x r).cons y).trans (.swap x y r)
theorem sortS_perm : ∀ l : List Str, (sortS l).Perm l
  | [] => .refl _
  | x :: r => (insS_perm x _).trans ((sortS_perm r).cons x)
set_option tactic.hygienic true in
theorem insS_sorted (x : Str) : ∀ l : List Str, l.Pairwise LeS -> (insS x l).Pairwise LeS
  | [], _ => by unfold insS; simp
  | y :: r, h => by
    unfold insS
    refine ob02 (List.pairwise_cons.mp h) fun h1 h2 => ?_
    split
    · rename_i q
      refine List.pairwise_cons.mpr ⟨fun z hz => ?_, h⟩
      rcases List.mem_cons.mp hz with rfl | hz
      · exact leS_iff.mp q
      · exact (leS_iff.mp q).trans (h1 z hz)
    · rename_i q
      have hyx : LeS y x := (LeS.total x y).resolve_left fun z => q (leS_iff.mpr z)
      refine List.pairwise_cons.mpr ⟨fun z hz => ?_, insS_sorted x r h2⟩
      rcases List.mem_cons.mp ((insS_perm x r).mem_iff.mp hz) with rfl | hz
      · exact hyx
      · exact h1 z hz
theorem sortS_sorted : ∀ l : List Str, (sortS l).Pairwise LeS
  | [] => by unfold sortS; simp
  | x :: r => insS_sorted x _ (sortS_sorted r)
theorem sorted_unique : ∀ {l l' : List Str}, l.Perm l' -> l.Pairwise LeS -> l'.Pairwise LeS -> l = l'
  | [], l', h, _, _ => (List.nil_perm.mp h).symm
  | x :: r, [], h, _, _ => by simpa using h.length_eq
  | x :: r, y :: r', h, a, b => by
    refine ob02 (List.pairwise_cons.mp a) fun a1 a2 => ?_
    refine ob02 (List.pairwise_cons.mp b) fun b1 b2 => ?_
    have hxy : x = y := by
      have hx : x ∈ y :: r' := h.mem_iff.mp (List.mem_cons_self ..)
      have hy : y ∈ x :: r := h.mem_iff.mpr (List.mem_cons_self ..)
      rcases List.mem_cons.mp hx with q | q
      · exact q
      · rcases List.mem_cons.mp hy with q' | q'
        · exact q'.symm
        · exact (a1 y q').antisymm (b1 x q)
    subst hxy
    rw [sorted_unique (List.perm_cons x |>.mp h) a2 b2]
theorem risingS_pw : ∀ (p : Str) (l : List Str), PyProof.Rows.risingS p l = true -> (p :: l).Pairwise LeS
  | p, [], _ => by simp
  | p, x :: r, h => by
    have h' : (!Spec.ltCps x.cps.toList p.cps.toList && PyProof.Rows.risingS x r) = true := h
    rw [Bool.and_eq_true, PyProof.Rows.ltCps_eq] at h'
    refine ob02 h' fun h1 h2 => ?_; clear h'
    have ih := risingS_pw x r h2
    have hpx : LeS p x := by unfold LeS; simpa using h1
    refine List.pairwise_cons.mpr ⟨fun z hz => ?_, ih⟩
    rcases List.mem_cons.mp hz with rfl | hz
    · exact hpx
    · exact hpx.trans ((List.pairwise_cons.mp ih).1 z hz)
theorem sortedS_pw : ∀ {l : List Str}, PyProof.Rows.sortedS l = true -> l.Pairwise LeS
  | [], _ => by simp
  | x :: r, h => risingS_pw x r h
section
variable {G : Glo} {fs : List Env} {A : Around} {H : Hid} {S : Store} {s : Shared} {n : Nat}
theorem strsAre_of : ∀ l : List (Str × Tok), PyProof.Rows.StrsAre (strValues l) (l.map (·.1))
  | [] => .nil
  | (x, t) :: l => .cons x t (strsAre_of l)
theorem strs_rd {P : Params} {h : Heap} : ∀ {vs : List Value} {xs : List Str}, PyProof.Rows.StrsAre vs xs -> (∀ x ∈ xs, PyData.strOk x = true /\ x.length <= sizeLine) -> RdAll P H h vs (xs.map D.str)
  | _, _, .nil, _ => .nil
  | _, _, .cons y t r, h => .cons (.str y t (h y (List.mem_cons_self ..)).1 (h y (List.mem_cons_self ..)).2) (strs_rd r fun x hx => h x (List.mem_cons_of_mem _ hx))
theorem strs_all {P : Params} {h : Heap} : ∀ {vs : List Value} {ds : List D} {xs : List Str}, RdAll P H h vs ds -> strsOf ds = some xs -> ∀ x ∈ xs, PyData.strOk x = true /\ x.length <= sizeLine
  | _, _, xs, .nil, e => by cases e; simp
  | _, _, xs, .cons (d := d) (ds := ds) a r, e => by
    cases a with
    | str x t hx lx =>
      unfold strsOf at e
      cases hs : strsOf ds with
      | none => rw [hs] at e; cases e
      | some ys =>
        rw [hs] at e; cases e
        intro y hy
        rcases List.mem_cons.mp hy with rfl | q
        · exact ⟨hx, lx⟩
        · exact strs_all r hs y q
    | _ => cases e
theorem mkL_eq (C : Cfg) (pos : Pos) (own : Bool) (h : C.own pos = own) (ds : List D) : mkList C pos ds = mkL own ds := by
  unfold mkList mkL; rw [h]
theorem sorted_ok (I : Inv G fs H S s) {a : Addr} {vs : Array Value} {m : Nat} {ds : List D} {ys : List Str} (own : Bool) (e : s.heap.get? a = some (lstO vs m)) (rd : RdAll G.P H s.heap vs.toList ds) (hx : strsOf ds = some ys) (h64 : ys.length < 64) :
    wpAny G.M A (call (.builtin "sorted") [.ref a]) (PV G fs (RR G) H s.heap (mkL own ((sortS ys).map D.str) S)) NoE s := by
  refine ob13 (strsOf_rd rd hx) fun l e1 e2 e3 => ?_
  have hall := strs_all rd hx
  have hS : PyProof.Rows.StrsAre vs.toList ys := by rw [e1, <- e2]; exact strsAre_of l
  have hlen : vs.toList.length = ys.length := by rw [e1, <- e2]; unfold strValues; rw [List.length_map, List.length_map]
  refine PyProof.Rows.sorted_strs (vs := vs.toList) (by simpa using Rd.isList e) hS (by rw [hlen]; exact h64) fun out ss' h1 h2 h3 => ?_
  have hss : ss' = sortS ys := sorted_unique (h2.trans (sortS_perm ys).symm) (sortedS_pw h3) (sortS_sorted ys)
  subst hss
  refine ob11 (PyProof.Rows.sortedAll_at s.heap vs.toList out) fun k hk => ?_
  have ho := strs_rd (P := G.P) (H := H) (h := s.heap) h1 fun x hx => hall x (h2.mem_iff.mp hx)
  have := newListAt (tk := s.toks) (vs := out.toList) I ho (by
    rw [ho.length, List.length_map, h2.length_eq]
    show _ <= 16777216
    lia) { fns := [], consts := [], own := fun _ => own } ⟨0, 0, 0, 0⟩ (h' := PyProof.Rows.sortedAll s.heap vs.toList out) (a := s.heap.objs.size + 1) (c := k) (fun _ _ e => PyProof.Rows.sortedAll_old e) (Nat.le_succ _) (by simpa using hk)
  rw [mkL_eq _ _ own rfl] at this
  exact this
end
end Mine
end

section
namespace Mine
open PySem
section
variable {G : Glo} {fs : List Env} {A : Around} {H : Hid} {S : Store} {s : Shared} {n : Nat}
theorem intsOf_cons {d : D} {ds : List D} {xs : List Int} (h : intsOf (d :: ds) = some xs) : ∃ x ys, d = .int x /\ intsOf ds = some ys /\ xs = x :: ys := by
  cases d with
  | int x =>
    cases hs : intsOf ds with
    | none => unfold intsOf at h; rw [hs] at h; cases h
    | some ys => unfold intsOf at h; rw [hs] at h; exact mk23 x ys rfl rfl (Option.some.inj h).symm
  | _ => cases h
theorem intsOf_rd {P : Params} {h : Heap} {vs : List Value} {ds : List D} (r : RdAll P H h vs ds) : ∀ {xs : List Int}, intsOf ds = some xs -> PyProof.Rows.IntsAre vs xs :=
  RdAll.ind (M := fun vs ds => ∀ {xs : List Int}, intsOf ds = some xs -> PyProof.Rows.IntsAre vs xs) (fun e => (Option.some.inj e).symm ▸ .nil) (fun {_ _ _ _} a _ q {xs} e => by
    refine ob23 (intsOf_cons e) fun x ys e1 e2 e3 => ?_
    rw [e1] at a
    rw [e3]
    cases a with | int _ t => exact .cons x t (q e2)) r
theorem ints_rdI {P : Params} {h : Heap} {vs : List Value} {xs : List Int} (r : PyProof.Rows.IntsAre vs xs) : RdAll P H h vs (xs.map D.int) :=
  PyProof.Rows.IntsAre.rec (motive := fun vs xs _ => RdAll P H h vs (xs.map D.int)) .nil (fun i t _ _ _ q => .cons (.int i t) q) r
theorem intsAre_len : ∀ {vs : List Value} {xs : List Int}, PyProof.Rows.IntsAre vs xs -> vs.length = xs.length
  | _, _, .nil => rfl
  | _, _, .cons _ _ r => congrArg (· + 1) (intsAre_len r)
theorem sortedI_ok (I : Inv G fs H S s) {a : Addr} {vs : Array Value} {m : Nat} {ds : List D} {ys : List Int} (own : Bool) (e : s.heap.get? a = some (lstO vs m)) (rd : RdAll G.P H s.heap vs.toList ds) (hx : intsOf ds = some ys) (h64 : ys.length < 64) :
    wpAny G.M A (call (.builtin "sorted") [.ref a]) (PV G fs (RR G) H s.heap (mkL own ((sortI ys).map D.int) S)) NoE s := by
  have hS := intsOf_rd rd hx
  refine PyProof.Rows.sorted_ints (vs := vs.toList) (by simpa using Rd.isList e) hS (by rw [intsAre_len hS]; exact h64) fun out ss' h1 h2 h3 => ?_
  have hss : ss' = sortI ys := sortedI_unique (h2.trans (sortI_perm ys).symm) h3 (sortI_sorted ys)
  subst hss
  refine ob11 (PyProof.Rows.sortedAll_at s.heap vs.toList out) fun k hk => ?_
  have ho := ints_rdI (P := G.P) (H := H) (h := s.heap) h1
  have := newListAt (tk := s.toks) (vs := out.toList) I ho (by
    rw [ho.length, List.length_map, h2.length_eq]
    show _ <= 16777216
    lia) { fns := [], consts := [], own := fun _ => own } ⟨0, 0, 0, 0⟩ (h' := PyProof.Rows.sortedAll s.heap vs.toList out) (a := s.heap.objs.size + 1) (c := k) (fun _ _ e => PyProof.Rows.sortedAll_old e) (Nat.le_succ _) (by simpa using hk)
  rw [mkL_eq _ _ own rfl] at this
  exact this
open Classical in
theorem mGet1_sound : MImpl.Sound "get" mGet1 where
  find I r h := by
    refine ob11 (Option.isSome_iff_exists.mp h) fun t e => ?_
    refine ob25 (tab_at I r e) fun n x er1 hS er2 ha hT => ?_; subst er1; subst er2
    exact mk15 ("dict") F.plainAttrs_dict F.slot_dict_get F.type_dict_get (tab_type hT) (tab_nodict hT)
  run {G fs A n H S s v a vs ds} c I r rs := on1_ok rs fun w x e q hne => by
    rw [e]
    cases ht : tabOf S a with
    | none => rw [ht] at hne; exact absurd rfl hne
    | some t =>
      rw [ht] at hne
      dsimp only at hne ⊢
      refine ob26 (tab_at I r ht) fun n y er1 hS er2 ha hx hT => ?_; subst er1; subst er2
      obtain ⟨hp, kvs⟩ := t
      cases hk : tabKey hp x with
      | none => dsimp only at hne; rw [hk] at hne; exact absurd rfl hne
      | some k =>
        dsimp only at hne ⊢
        rw [hk] at hne
        try dsimp only at hne ⊢
        show wpAny G.M A (call (.builtin "dict.get") [.ref y, w]) _ _ s
        cases hp with
        | true =>
          refine ob12 hT fun xs q1 q2 => ?_; clear hT
          refine ob13 (keyH q hk) fun a' er1 i rk => ?_; subst er1
          refine call_meetsIn F.slot_dict_get q1.typeIs F.entry_dict_get (F.args_dict_get_2 _ _) (meetsH_dict_get (kdKind G.prog G.w) y a' (beq_false_of_ne hx)) ⟨?_, k, xs, i, q1, ?_⟩
          · have := c.units
            first | (show A.units + 1 + 8 < 9900; lia) | (show A.units + 1 + 1 + 8 < 9900; omega)
          · refine mk34 _ S H rfl Ext.refl I.toks ?_
            cases hd : tabAt kvs k with
            | none => rw [(q2.at k).1 hd]; exact .none
            | some d => refine ob12 ((q2.at k).2 d hd) fun p e1 e2 => ?_; rw [e1]; exact e2
        | false =>
          refine ob12 hT fun xs q1 q2 => ?_; clear hT
          refine ob12 (keyI q hk) fun o er1 i => ?_; subst er1
          refine call_meetsIn F.slot_dict_get q1.typeIs F.entry_dict_get (F.args_dict_get_2 _ _) (meets_dict_get (oiKind G.prog G.w) y (k := o) i (beq_false_of_ne hx)) ⟨_, q1.mapOf, ?_⟩
          refine mk34 _ S H rfl Ext.refl I.toks ?_
          cases hd : tabAt kvs (oiK o) with
          | none => rw [(q2.at o).1 hd]; exact .none
          | some d => refine ob12 ((q2.at o).2 d hd) fun p e1 e2 => ?_; rw [e1]; exact e2
end
end Mine
end

section
namespace Mine
open PySem
set_option tactic.hygienic true in
theorem bMin2_sound : BImpl.Sound "min" bMin2 where
  mem := by decide +kernel
  boot := by rfl
  ne := by decide +kernel
  val := mk11 _ rfl
  run own c I r := by
    rename_i G fs A n H S s vs ds
    show Wp G fs A (RR G) H S s (call (.builtin "min") vs) (min2 ds)
    unfold min2
    split
    · refine ob23 r.two fun v u er1 q q' => ?_; subst er1
      refine onInts_ok q q' (fun i j t t' _ _ e e' _ => ?_) Wp.stk
      rw [e, e']
      refine wpAny_size (min_two_ints c.handled fun h' tk k hs => ?_)
      refine mk34 _ S H rfl (Ext.of_keeps k hs) (I.grow k) ?_
      split
      · exact .int _ _
      · exact .int _ _
    · exact Wp.stk
end Mine
end

section
namespace Mine
open PySem
theorem bSortB_sound : BImpl.Sound "sorted" bSortB where
  mem := by decide +kernel
  boot := by rfl
  ne := by decide +kernel
  val := mk11 _ rfl
  run own c I r := on1_ok r fun v a e q => onList_ok I q fun x vs n ds e1 e2 e3 e4 hne => by
    rw [e, e1]
    cases hx : intsOf ds with
    | none =>
      rw [hx] at hne
      dsimp only at hne ⊢
      cases hy : strsOf ds with
      | none => rw [hy] at hne; exact absurd rfl hne
      | some ys =>
        rw [hy] at hne
        by_cases h : ys.length < 64
        · dsimp only; rw [if_pos h]; exact sorted_ok I own e2 e4 hy h
        · dsimp only at hne; rw [if_neg h] at hne; exact absurd rfl hne
    | some ys =>
      rw [hx] at hne
      by_cases h : ys.length < 64
      · dsimp only; rw [if_pos h]; exact sortedI_ok I own e2 e4 hx h
      · dsimp only at hne; rw [if_neg h] at hne; exact absurd rfl hne
section
variable {G : Glo} {fs : List Env} {A : Around} {H : Hid} {S : Store} {s : Shared} {n : Nat}
theorem any_ok (hh : A.handled = none) (I : Inv G fs H S s) {a : Addr} {vs : Array Value} {m : Nat} {bs : List Bool} (e : s.heap.get? a = some (lstO vs m)) (hb : vs.toList = bs.map .bool) {Q : Value -> Shared -> Prop} {E : Value -> Shared -> Prop}
    (hQ : ∀ h' tk, (∀ b o, s.heap.get? b = some o -> h'.get? b = some o) -> s.heap.objs.size <= h'.objs.size -> Q (.bool (bs.any id)) { s with heap := h', toks := tk }) : wpAny G.M A (call (.builtin "any") [.ref a]) Q E s := by
  refine wpAny_size (call_any_walk (wpAny_pyIter_list (Rd.isList e) ?_))
  have hlt := Heap.lt_size e
  have hne : a ≠ s.heap.objs.size := Nat.ne_of_lt hlt
  refine mk75 s.heap.objs.size [s.heap.objs.size, a] [s.heap.objs.size] vs.size _ _ (fun i => bs.getD i false) rfl (Walks.list (show A.in1.handled = none from hh) s.heap.objs.size a hne vs) ?_ ?_ ?_
  · exact ⟨⟨_, Heap.get?_push_size _ rfl, rfl, rfl⟩, Rd.isList (Heap.get?_push_of_some _ e)⟩
  · intro i v s' Q' E' hv hq
    have : vs.toList[i]? = some v := by rw [Array.getElem?_toList]; exact hv
    rw [hb, List.getElem?_map] at this
    cases hbi : bs[i]? with
    | none => rw [hbi] at this; cases this
    | some b =>
      rw [hbi] at this
      cases this
      refine wpAny_truthy_bool ?_
      have : bs.getD i false = b := by simp [List.getD, hbi]
      have hq' : Q' (bs.getD i false) s' := hq
      rw [this] at hq'; exact hq'
  · intro h' tk k
    have hl : vs.size = bs.length := by
      have := congrArg List.length hb
      simpa using this
    have hany : (List.range vs.size).any (fun i => bs.getD i false) = bs.any id := by
      rw [hl, Bool.eq_iff_iff]
      simp only [List.any_eq_true, List.mem_range, id]
      constructor
      · rintro ⟨i, hi, q⟩
        exact mk12 (bs[i]) (List.getElem_mem hi) (by simpa [List.getD, hi] using q)
      · rintro ⟨x, hx, q⟩
        obtain ⟨i, hi, rfl⟩ := List.mem_iff_getElem.mp hx
        exact mk12 i hi (by simpa [List.getD, hi] using q)
    rw [hany]
    have kk : ∀ b o, s.heap.get? b = some o -> h'.get? b = some o := fun b o e' => k b o (by simp only [List.mem_singleton]; exact Nat.ne_of_lt (Heap.lt_size e')) (Heap.get?_push_of_some _ e')
    exact fun hs => hQ h' tk kk hs
end
theorem bAny_sound : BImpl.Sound "any" bAny where
  mem := by decide +kernel
  boot := by rfl
  ne := by decide +kernel
  val := mk11 _ rfl
  run {G fs A n H S s vs ds} own c I r := on1_ok r fun v a e q => onList_ok I q fun x vs n ds e1 e2 e3 e4 hne => by
    rw [e, e1]
    cases hx : boolsOf ds with
    | none => rw [hx] at hne; exact absurd rfl hne
    | some bs =>
      have hb := boolsOf_rd e4 hx
      exact any_ok c.handled I e2 hb fun h' tk k hs => mk34 _ S H rfl (Ext.of_keeps k hs) (I.grow k) (.bool _)
end Mine
end

section
namespace Mine
open PySem
section
variable {G : Glo} {fs : List Env} {A : Around} {H : Hid} {S : Store} {s : Shared} {n : Nat}
noncomputable def LitVs : List (Value × Value) -> List (Str × D) -> Prop
  | [], [] => True
  | p :: r, q :: l => (∃ t, p.1 = .str q.1 t) /\ (PyData.strOk q.1 = true /\ q.1.length <= sizeLine) /\ (∀ P H h, Rd P H h p.2 q.2) /\ LitVs r l
  | _, _ => False
set_option tactic.hygienic true in
theorem strC_inv {e : Expr} {x : Str} (h : strC e = some x) : ∃ k p, e = .Constant (.str x) k p /\ PyData.strOk x = true /\ x.length <= sizeLine := by
  unfold strC at h
  split at h
  · split at h
    · rename_i hc
      cases h
      rw [Bool.and_eq_true, decide_eq_true_eq] at hc
      exact mk22 _ _ rfl hc
    · cases h
  · cases h
set_option tactic.hygienic true in
theorem bName_walk {env : Env} {sc : Scope} {σ : Sg} {e : Expr} {b : Bool} (h : bName sc σ e = some b) {s : Shared} (V : EnvOk G H s.heap env sc σ) {Q : Value -> Shared -> Prop} {E : Value -> Shared -> Prop} (hQ : Q (.bool b) s) : wpAny G.M A (eval e env) Q E s := by
  unfold bName at h
  split at h
  · rename_i x pos
    split at h
    · cases h
    · rename_i hd
      have hd' : (x == ("__debug__" : Str)) = false := by simpa using hd
      split at h
      · rename_i i hs
        split at h
        · rename_i b' hi
          cases h
          refine ob12 V.ns fun m hn hm => ?_
          refine ob12 (hm x i _ hs hi) fun v e1 e2 => ?_
          cases e2
          exact wpAny_Name (wpAny_loadName_local (by rw [V.scope]; exact V.kind) (V.kindOf hs) hn e1 hQ) hd'
        · cases h
      · cases h
  · cases h
theorem bNot_walk {env : Env} {sc : Scope} {σ : Sg} {e : Expr} {b : Bool} (h : bNot sc σ e = some b) {s : Shared} (V : EnvOk G H s.heap env sc σ) {Q : Value -> Shared -> Prop} {E : Value -> Shared -> Prop} (hQ : Q (.bool b) s) : wpAny G.M A (eval e env) Q E s := by
  unfold bNot at h
  split at h
  · refine ob12 (Option.map_eq_some_iff.mp h) fun c hc er1 => ?_; subst er1
    exact wpAny_UnaryOp (bName_walk hc V (not_value (wpAny_truthy_bool hQ)))
  · exact bName_walk h V hQ
set_option tactic.hygienic true in
set_option backward.match.sparseCases true in
theorem bE_walk {env : Env} {sc : Scope} {σ : Sg} {e : Expr} {b : Bool} (h : bE sc σ e = some b) {s : Shared} (V : EnvOk G H s.heap env sc σ) {Q : Value -> Shared -> Prop} {E : Value -> Shared -> Prop} (hQ : Q (.bool b) s) : wpAny G.M A (eval e env) Q E s := by
  unfold bE at h
  split at h
  · rename_i op e1 e2 pos
    refine ob12 (Option.bind_eq_some_iff.mp h) fun x hx h => ?_
    refine ob12 (Option.map_eq_some_iff.mp h) fun y hy er1 => ?_; subst er1
    rw [arm_eval_BoolOp]
    have q' : boolOp pos op (evalEach [e1, e2] env) = (do
        let v <- eval e1 env
        standAt pos
        let t <- holding [v] (truthy v)
        match op, t with
        | .And, false | .Or, true => pure v
        | _, _ => eval e2 env) := rfl
    rw [q']
    refine wpAny_bind (bNot_walk hx V (wpAny_bind (wpAny_standAt (wpAny_bind (wpAny_holding (wpAny_truthy_bool ?_))))))
    cases op with
    | And =>
      cases x with
      | false => exact wpAny_pure hQ
      | true => exact bNot_walk hy V hQ
    | Or =>
      cases x with
      | true => exact wpAny_pure hQ
      | false => exact bNot_walk hy V hQ
  · cases h
theorem litV_walk {env : Env} {sc : Scope} {σ : Sg} {e : Expr} {d : D} (h : litV sc σ e = some d) {s : Shared} (V : EnvOk G H s.heap env sc σ) {Q : Value -> Shared -> Prop} {E : Value -> Shared -> Prop} (hQ : ∀ v tk, (∀ P H h, Rd P H h v d) -> Q v { s with toks := tk }) : wpAny G.M A (eval e env) Q E s := by
  refine ob12 (Option.map_eq_some_iff.mp h) fun c hc er1 => ?_; subst er1
  exact bE_walk hc V (hQ _ s.toks fun _ _ _ => .bool _)
theorem dictLit_cons {sc : Scope} {σ : Sg} {k : Option Expr} {ks : List (Option Expr)} {v : Expr} {vs : List Expr} {l : List (Str × D)} (h : dictLit sc σ (k :: ks) (v :: vs) = some l) :
    ∃ e x y r, k = some e /\ strC e = some x /\ litV sc σ v = some y /\ dictLit sc σ ks vs = some r /\ l = (x, y) :: r := by
  cases k with
  | none => cases h
  | some e =>
    have h' : ((strC e).bind fun x => (litV sc σ v).bind fun y => (dictLit sc σ ks vs).map ((x, y) :: ·)) = some l := h
    cases hx : strC e with
    | none => rw [hx] at h'; cases h'
    | some x =>
      cases hy : litV sc σ v with
      | none => rw [hx, hy] at h'; cases h'
      | some y =>
        cases hr : dictLit sc σ ks vs with
        | none => rw [hx, hy, hr] at h'; cases h'
        | some r => rw [hx, hy, hr] at h'; cases h'; exact mk45 e x y r rfl hx rfl rfl rfl
theorem lit_pairs {env : Env} {sc : Scope} {σ : Sg} {pos : Pos} (keys : List (Option Expr)) : ∀ {values : List Expr} {l : List (Str × D)} {s : Shared} {Q : List (Value × Value) -> Shared -> Prop} {E : Value -> Shared -> Prop}, dictLit sc σ keys values = some l -> EnvOk G H s.heap env sc σ ->
    (∀ vs tk, LitVs vs l -> Q vs { s with toks := tk }) -> wpAny G.M A (evalPairs (pairTrees keys values env pos)) Q E s := by
  induction keys with
  | nil =>
    intro values l s Q E h V hQ
    cases values with
    | nil => cases h; exact pairTrees_nil_walk (hQ [] s.toks trivial)
    | cons v vs => cases h
  | cons k ks ih =>
    intro values l s Q E h V hQ
    cases values with
    | nil => cases k <;> cases h
    | cons v vs =>
      refine ob45 (dictLit_cons h) fun e x y r er1 hx hy hr er2 => ?_; subst er1; subst er2
      refine ob22 (strC_inv hx) fun k1 p1 er1 a1 => ?_; subst er1
      refine pairTrees_cons_walk (wpAny_Constant_str (litV_walk (H := H) (s := { s with toks := s.toks + 1 }) hy V fun v tk hv => ih (s := { s with toks := tk }) hr V fun vs tk q => ?_))
      exact hQ _ tk ⟨⟨_, rfl⟩, a1, hv, q⟩
theorem dictLit_len {sc : Scope} {σ : Sg} (keys : List (Option Expr)) : ∀ {values : List Expr} {l : List (Str × D)}, dictLit sc σ keys values = some l -> keys.all (·.isSome) = true /\ keys.length = values.length /\ keys.length = l.length := by
  induction keys with
  | nil =>
    intro values l h
    cases values with
    | nil => cases h; exact ⟨rfl, rfl, rfl⟩
    | cons v vs => cases h
  | cons k ks ih =>
    intro values l h
    cases values with
    | nil => cases k <;> cases h
    | cons v vs =>
      refine ob45 (dictLit_cons h) fun e x y r er1 hx hy hr er2 => ?_; subst er1; subst er2
      refine ob03 (ih hr) fun i1 i2 i3 => ?_
      exact ⟨i1, congrArg (· + 1) i2, congrArg (· + 1) i3⟩
theorem lit_carries (vs : List (Value × Value)) : ∀ {l : List (Str × D)}, LitVs vs l -> Carries (strKind G.prog G.w) vs (strPairs vs) /\ (strPairs vs).map (·.1) = l.map (·.1) := by
  induction vs with
  | nil =>
    intro l h
    cases l with
    | nil => exact ⟨trivial, rfl⟩
    | cons _ _ => exact h.elim
  | cons p vs ih =>
    intro l h
    cases l with
    | nil => exact h.elim
    | cons q l =>
      obtain ⟨k, v⟩ := p
      obtain ⟨⟨t, rfl⟩, _, _, h5⟩ := h
      refine ob02 (ih h5) fun i1 i2 => ?_
      refine ⟨⟨strKind_is G.prog G.w q.1 t, rfl, i1⟩, ?_⟩
      show q.1 :: (strPairs vs).map (·.1) = _
      rw [i2]; rfl
theorem merged_new (l : List (Str × Value)) : ∀ acc : List (Str × Value), ((acc ++ l).map (·.1)).Nodup -> merged acc l = acc ++ l := by
  induction l with
  | nil => intro acc _; rw [List.append_nil]; rfl
  | cons p l ih =>
    intro acc hn
    have hs : stored acc p.1 p.2 = acc ++ [p] := by
      unfold stored
      rw [if_neg]
      intro h
      refine ob12 (List.any_eq_true.mp h) fun q hq e => ?_
      rw [List.map_append, List.nodup_append] at hn
      exact hn.2.2 q.1 (List.mem_map_of_mem hq) p.1 (List.mem_cons_self ..) (of_decide_eq_true e)
    show merged (stored acc p.1 p.2) l = _
    rw [hs, ih]
    · rw [List.append_assoc]; rfl
    · rw [List.append_assoc]; exact hn
theorem lit_ents {h : Heap} (vs : List (Value × Value)) : ∀ {l : List (Str × D)} {es : List DictEntry}, LitVs vs l -> Pairs (strKind G.prog G.w) es (strPairs vs) -> (∀ e ∈ es, ∃ k, (strKind G.prog G.w).is k e.key = true /\ e.hash = (strKind G.prog G.w).hash k) ->
    RdEnts G.P H h es l := by
  induction vs with
  | nil =>
    intro l es hl hp hk
    cases l with
    | nil => cases hp; exact .nil
    | cons _ _ => exact hl.elim
  | cons p vs ih =>
    intro l es hl hp hk
    cases l with
    | nil => exact hl.elim
    | cons q l =>
      obtain ⟨k, v⟩ := p
      obtain ⟨⟨t, rfl⟩, a1, hv, h5⟩ := hl
      have hp' : Pairs (strKind G.prog G.w) es ((q.1, v) :: strPairs vs) := hp
      cases hp' with
      | @cons e _ es _ b1 b2 b3 =>
        refine ob11 (Value.isStrOf_shape b1) fun t2 hk2 => ?_
        refine ob12 (hk e (List.mem_cons_self ..)) fun k2 c1 c2 => ?_
        have hkk : k2 = q.1 := Value.isStrOf_inj e.key k2 q.1 c1 b1
        rw [hkk] at c2
        exact .cons hk2 a1.1 a1.2 c2 (by rw [b2]; exact hv _ _ _) (ih h5 b3 fun e he => hk e (List.mem_cons_of_mem _ he))
theorem pairs_len {es : List DictEntry} {kv : List (Str × Value)} (h : Pairs (strKind G.prog G.w) es kv) : es.length = kv.length := by
  induction h with
  | nil => rfl
  | cons _ _ _ ih => exact congrArg (· + 1) ih
theorem dict_ok (K : G.Ok) (I : Inv G fs H S s) {env : Env} {sc : Scope} {σ : Sg} (V : EnvOk G H s.heap env sc σ) {keys : List (Option Expr)} {values : List Expr} {pos : Pos} : Wp G fs A (RR G) H S s (eval (.Dict keys values pos) env) (dictM sc σ keys values) := by
  intro hne
  unfold dictM at hne ⊢
  cases hl : dictLit sc σ keys values with
  | none => rw [hl] at hne; exact absurd rfl hne
  | some l =>
    rw [hl] at hne
    by_cases hc : (!l.isEmpty && decide (l.length <= 15) && decide (l.map (·.1)).Nodup) = true
    · dsimp only
      rw [if_pos hc]
      rw [Bool.and_eq_true, Bool.and_eq_true, decide_eq_true_eq, decide_eq_true_eq] at hc
      obtain ⟨⟨c1, c2⟩, c3⟩ := hc
      refine ob03 (dictLit_len keys hl) fun d1 d2 d3 => ?_
      refine wpAny_Dict_walk (knd := strKind G.prog G.w) d1 d2 (fun e => ?_) (by rw [d3]; exact c2) (lit_pairs keys hl (V.step (Ext.push _)) fun vs tk hvs => ?_)
      · rw [e] at d3
        rw [List.length_eq_zero_iff.mp d3.symm] at c1; cases c1
      · refine ob02 (lit_carries (G := G) vs hvs) fun e1 e2 => ?_
        refine mk13 (strPairs vs) e1 ⟨_, #[], 0, Heap.get?_push_size _ rfl, ⟨rfl, rfl, rfl⟩, rfl, fun e he => by simp at he, .nil, List.nodup_nil⟩ (fun h' hD hs => ?_)
        rw [merged_new _ [] (by rw [List.nil_append, e2]; exact c3), List.nil_append] at hD
        refine ob36 hD fun o es ep ho hex hd hk hp _ => ?_; clear hD
        have hes : es.size = l.length := by
          have := pairs_len hp
          have h2 := congrArg List.length e2
          rw [List.length_map, List.length_map] at h2
          rw [<- Array.length_toList, this, h2]
        have hob : o = dicO es ep := by
          refine ob03 hex fun x1 x2 x3 => ?_; clear hex
          obtain ⟨oc, od, oda, os⟩ := o
          cases x1; cases x2; cases x3; cases hd; rfl
        rw [hob] at ho
        have keep : ∀ b o, s.heap.get? b = some o -> h'.get? b = some o := fun b o e => (hs.2 b (Nat.ne_of_lt (Heap.lt_size e))).trans (Heap.get?_push_of_some _ e)
        have hsys : s.heap.objs.size ≠ sysModules := by
          refine ob32 (K.g.keeps I.stays) fun o' _ _ e _ => ?_
          have := Heap.lt_size e
          intro q
          rw [q] at this
          exact absurd this (by decide)
        have hz : es.size <= sizeLine := by rw [hes]; exact Nat.le_trans c2 (by decide)
        refine mk34 _ S H rfl (Ext.of_keeps keep ?_) (I.grow keep) ?_
        · have : h'.objs.size = (s.heap.push { cls := .type "dict", data := .dict #[] }).objs.size := hs.1
          rw [this]; exact size_push_le _ _
        · exact .dict I.freshS I.freshF ho hz c3 (lit_ents vs hvs hp fun e he => hk e (Array.mem_toList_iff.mp he)) hsys
    · dsimp only at hne
      rw [if_neg hc] at hne; exact absurd rfl hne
open Classical in
theorem newTab (K : G.Ok) (I : Inv G fs H S s) (b : Bool) : PV G fs (RR G) H s.heap (mkTab b S) (.ref s.heap.objs.size) { s with heap := s.heap.push { cls := .type "dict", data := .dict #[] } } := by
  have hsys : s.heap.objs.size ≠ sysModules := by
    refine ob32 (K.g.keeps I.stays) fun o' _ _ e _ => ?_
    have := Heap.lt_size e
    intro q
    rw [q] at this
    exact absurd this (by decide)
  have := newStore (tk := s.toks) (p := .tab b []) I (fun b o e => Heap.get?_push_of_some (h := s.heap) { cls := .type "dict", data := .dict #[] } e) (Nat.le_refl _) ⟨_, Heap.get?_push_size _ rfl⟩ fun _ _ => ⟨hsys, by
    cases b with
    | true => exact mk12 [] (Heap.DictOfH.new _) trivial
    | false => exact mk12 [] (Heap.DictOf.new _) trivial⟩
  exact this
theorem dictE_ok (K : G.Ok) (I : Inv G fs H S s) {C : Cfg} {env : Env} {sc : Scope} {σ : Sg} (V : EnvOk G H s.heap env sc σ) {keys : List (Option Expr)} {values : List Expr} {pos : Pos} : Wp G fs A (RR G) H S s (eval (.Dict keys values pos) env) (dictE C pos sc σ keys values) := by
  unfold dictE
  by_cases hc : (keys.isEmpty && values.isEmpty) = true
  · rw [if_pos hc]
    rw [Bool.and_eq_true, List.isEmpty_iff, List.isEmpty_iff] at hc
    refine ob02 hc fun er1 er2 => ?_; clear hc; subst er1; subst er2
    by_cases h1 : C.own pos = true
    · rw [if_pos h1]
      exact fun _ => wpAny_Dict_empty (newTab K I true)
    · rw [if_neg h1]
      by_cases h2 : C.tab0 pos = true
      · rw [if_pos h2]
        exact fun _ => wpAny_Dict_empty (newTab K I false)
      · rw [if_neg h2]; exact Wp.stk
  · rw [if_neg hc]; exact dict_ok K I V
end
end Mine
end

section
namespace Mine
open PySem
structure Itr (G : Glo) (H : Hid) (h₀ h₁ : Heap) (I : Addr) (ds : List D) (fp : List Addr) (P : Nat -> Value -> Prop) (St : Nat -> Heap -> Prop) : Prop where
  walks : ∀ A : Around, A.handled = none -> Walks G.prog G.w A I fp [I] ds.length P St
  fp : ∀ b ∈ fp, b = I \/ (b ∉ H.ρ /\ b ∉ H.fr /\ ∃ o, h₀.get? b = some o)
  item : ∀ i v, P i v -> ∃ d, ds[i]? = some d /\ Rd G.P H h₀ v d
  live : ∀ i h, St i h -> ∃ o, h.get? I = some o /\ plainO o = true
  start : St 0 h₁
  len : ds.length <= sizeLine
section
variable {G : Glo} {fs : List Env} {A : Around} {H : Hid} {S : Store} {s : Shared} {n : Nat}
theorem plainO_of {o : Obj} {vs : Array Value} (h : o.data = .fields vs) : plainO o = true := by unfold plainO; rw [h]
theorem RdAll.at {P : Params} {h : Heap} {vs : List Value} {ds : List D} (r : RdAll P H h vs ds) {i : Nat} {v : Value} (e : vs[i]? = some v) : ∃ d, ds[i]? = some d /\ Rd P H h v d := by
  have hi : i < ds.length := by rw [<- r.length]; exact (List.getElem?_eq_some_iff.mp e).1
  refine ob12 (r.get (List.getElem?_eq_getElem hi)) fun v' e1 e2 => ?_
  rw [e] at e1; cases e1
  exact mk12 _ (List.getElem?_eq_getElem hi) e2
set_option tactic.hygienic true in
theorem iter_ok {v : Value} {d : D} {ds : List D} (r : Rd G.P H s.heap v d) (e : itemsOf d = some ds) {E : Value -> Shared -> Prop} {Q : Value -> Shared -> Prop}
    (hQ : ∀ o fp P St, Itr G H s.heap (s.heap.push o) s.heap.objs.size ds fp P St -> Q (.ref s.heap.objs.size) { s with heap := s.heap.push o }) : wpAny G.M A (pyIter v) Q E s := by
  cases r with
  | @tuple ax vs m _ a b c l q =>
    cases e
    have hne := Nat.ne_of_lt (Heap.lt_size c)
    have hl : ds.length = vs.size := by rw [<- q.length]; simp
    refine wpAny_pyIter_tuple ⟨_, c, rfl, _, rfl⟩ (hQ _ [s.heap.objs.size, ax] (fun i v => vs[i]? = some v) (fun i h => h.IsTupleIter s.heap.objs.size ax i /\ h.IsTuple ax vs) ⟨fun A' hA => ?_, ?_, ?_, ?_, ?_, ?_⟩)
    · rw [hl]; exact Walks.tuple hA _ _ hne _
    · intro b' hb
      simp only [List.mem_cons, List.not_mem_nil, or_false] at hb
      rcases hb with rfl | rfl
      · exact .inl rfl
      · exact .inr ⟨a, b, _, c⟩
    · intro i v hv
      exact q.at (by rw [Array.getElem?_toList]; exact hv)
    · intro i h st
      refine ob13 st.1 fun o e _ e' => ?_
      exact mk12 o e (plainO_of e')
    · exact ⟨⟨_, Heap.get?_push_size _ rfl, rfl, rfl⟩, _, Heap.get?_push_of_some _ c, rfl, _, rfl⟩
    · rw [hl]; exact l
  | @list ax vs m _ a b c l q =>
    cases e
    have hne := Nat.ne_of_lt (Heap.lt_size c)
    have hl : ds.length = vs.size := by rw [<- q.length]; simp
    refine wpAny_pyIter_list (Rd.isList c) (hQ _ [s.heap.objs.size, ax] (fun i v => vs[i]? = some v) (fun i h => h.IsListIter s.heap.objs.size ax i /\ h.IsList ax vs) ⟨fun A' hA => ?_, ?_, ?_, ?_, ?_, ?_⟩)
    · rw [hl]; exact Walks.list hA _ _ hne _
    · intro b' hb
      simp only [List.mem_cons, List.not_mem_nil, or_false] at hb
      rcases hb with rfl | rfl
      · exact .inl rfl
      · exact .inr ⟨a, b, _, c⟩
    · intro i v hv
      exact q.at (by rw [Array.getElem?_toList]; exact hv)
    · intro i h st
      refine ob13 st.1 fun o e _ e' => ?_
      exact mk12 o e (plainO_of e')
    · exact ⟨⟨_, Heap.get?_push_size _ rfl, rfl, rfl⟩, Rd.isList (Heap.get?_push_of_some _ c)⟩
    · rw [hl]; exact l
  | @range ra i j t u v a b c =>
    have e' : (if (decide (-1000000000 <= i) && decide (i <= 1000000000) && decide (-1000000000 <= j) && decide (j - i <= 16777216)) = true then some (rangeL i j) else none) = some ds := e
    split at e'
    · rename_i hc
      cases e'
      simp only [Bool.and_eq_true, decide_eq_true_eq] at hc
      obtain ⟨⟨⟨h1, h2⟩, h4⟩, h3⟩ := hc
      have hsz := rangeSize_one i j
      have hsm : Builtin.Range.small i j 1 = true := small_one (by lia) (by lia) (by lia) (by lia)
      have hn : (((j - i).toNat : Nat) : Int) = if i < j then j - i else 0 := by
        split <;> lia
      have hlen : (rangeL i j).length = (j - i).toNat := by simp [rangeL]
      refine wpAny_pyIter_range c hsm (hQ _ [s.heap.objs.size] (fun k v => k < (j - i).toNat /\ ∃ t, v = .int (i + k * 1) t) (fun k h => IsRangeIter h s.heap.objs.size (i + (k : Nat) * 1) (((j - i).toNat : Int) - (k : Nat)) 1) ⟨fun A' hA => ?_, ?_, ?_, ?_, ?_, ?_⟩)
      · rw [hlen]
        have W := Walks.range (prog := G.prog) (w := G.w) hA s.heap.objs.size i 1 (j - i).toNat
        exact ⟨W.sub, W.frame, fun k s Q E hk st hQ => W.item k s Q E hk st fun v h' tk p => hQ v h' tk ⟨hk, p⟩, W.done, W.self⟩
      · intro b' hb
        simp only [List.mem_cons, List.not_mem_nil, or_false] at hb
        exact .inl hb
      · rintro k v ⟨hk, t', rfl⟩
        refine mk12 (.int (i + k * 1)) ?_ (.int _ _)
        unfold rangeL
        rw [List.getElem?_map, List.getElem?_range hk]
        simp
      · intro i h st
        exact mk12 _ st rfl
      · rw [hsz, <- hn]
        have z1 : i + ((0 : Nat) : Int) * 1 = i := by lia
        have z2 : (((j - i).toNat : Nat) : Int) - ((0 : Nat) : Int) = ((j - i).toNat : Int) := by lia
        rw [z1, z2]
        exact Heap.get?_push_size _ rfl
      · rw [hlen]; have : sizeLine = 16777216 := by decide
        lia
    · cases e'
  | _ => cases e
end
end Mine
end

section
namespace Mine
open PySem
noncomputable abbrev xs (env : Env) : List Addr := env.locals :: env.cells.map (·.2)
section
variable {G : Glo} {fs : List Env} {A : Around} {H : Hid} {S : Store} {s : Shared} {n : Nat} {env : Env} {sc : Scope} {σ : Sg}
theorem Wp.go (K : G.Ok) {α' α : Type} {R : Hid -> Heap -> α' -> α -> Prop} {t : Sem α'} {m : EM α} {Q : α' -> Shared -> Prop} {E : Value -> Shared -> Prop} (h : Wp G fs A R H S s t m) (hne : m S ≠ .stuck)
    (hQ : ∀ v a H1 S1 s1, m S = .ok a S1 -> Ext [] H s.heap H1 s1.heap -> Inv G fs H1 S1 s1 -> R H1 s1.heap v a -> Q v s1) : wpAny G.M A t Q E s :=
  wpAny_mono (h hne) (fun v s1 p => by refine ob34 p fun a S1 H1 e1 x i r => ?_; clear p; exact hQ v a H1 S1 s1 e1 x i r) fun _ _ p => False.elim p
theorem bnd_inv {α β : Type} {m : EM α} {f : α -> EM β} (h : bnd m f S ≠ .stuck) : m S ≠ .stuck := fun q => h (by unfold bnd; rw [q])
theorem bnd_at {α β : Type} {m : EM α} {f : α -> EM β} {a : α} {S1 : Store} (h : m S = .ok a S1) : bnd m f S = f a S1 := by unfold bnd; rw [h]
theorem Wp.then (K : G.Ok) {α' α β : Type} {R : Hid -> Heap -> α' -> α -> Prop} {t : Sem α'} {m : EM α} {f : α -> EM β} {Q : α' -> Shared -> Prop} {E : Value -> Shared -> Prop} (h : Wp G fs A R H S s t m) (hne : bnd m f S ≠ .stuck)
    (hQ : ∀ v a H1 S1 s1, m S = .ok a S1 -> bnd m f S = f a S1 -> f a S1 ≠ .stuck -> Ext [] H s.heap H1 s1.heap -> Inv G fs H1 S1 s1 -> R H1 s1.heap v a -> Q v s1) : wpAny G.M A t Q E s :=
  h.go K (bnd_inv hne) fun v a H1 S1 s1 e x i r => hQ v a H1 S1 s1 e (bnd_at e) (by rw [<- bnd_at (f := f) e]; exact hne) x i r
theorem const_rd {v : Value} {d : D} (I : Inv G fs H S s) (r : Rd G.P ⟨[], []⟩ G.B.heap v d) : Rd G.P H s.heap v d :=
  Rd.ext (H := ⟨[], []⟩) (fun b o _ _ e => ⟨fun q => (by rw [I.newS b q] at e; cases e), fun q => (by rw [I.newF b q] at e; cases e), I.stays b o e⟩) (fun n a e => by simp at e) r
theorem name_ok (K : G.Ok) (I : Inv G fs H S s) (V : EnvOk G H s.heap env sc σ) (x : Str) (pos : Pos) : Wp G fs A (RR G) H S s (eval (.Name x pos) env) (nameD G.C sc σ x) := by
  intro hne
  unfold nameD at hne ⊢
  by_cases hd : (x == ("__debug__" : Str)) = true
  · rw [if_pos hd] at hne; exact absurd rfl hne
  · rw [if_neg hd] at hne ⊢
    have hd' : (x == ("__debug__" : Str)) = false := by simpa using hd
    have hk : env.scope.kind = .function := by rw [V.scope]; exact V.kind
    cases hs : slot sc.names x with
    | none => rw [hs] at hne; exact absurd rfl hne
    | some p =>
      obtain ⟨i, k⟩ := p
      rw [hs] at hne
      cases k with
      | «local» =>
        dsimp only at hne ⊢
        unfold lk at hne ⊢
        cases hi : σ[i]? with
        | none => rw [hi] at hne; exact absurd rfl hne
        | some o =>
          rw [hi] at hne
          cases o with
          | none => exact absurd rfl hne
          | some d =>
            refine ob12 V.ns fun m hn hm => ?_
            refine ob12 (hm x i d hs hi) fun v e1 e2 => ?_
            exact wpAny_Name (wpAny_loadName_local hk (V.kindOf hs) hn e1 ⟨_, S, H, rfl, Ext.refl, I, e2⟩) hd'
      | cell =>
        dsimp only at hne ⊢
        unfold lk at hne ⊢
        cases hi : σ[i]? with
        | none => rw [hi] at hne; exact absurd rfl hne
        | some o =>
          rw [hi] at hne
          cases o with
          | none => exact absurd rfl hne
          | some d =>
            obtain ⟨c, e1, e2, e3, v?, e4, e5⟩ := V.cells x i hs
            refine ob12 (e5 d hi) fun v er1 e6 => ?_; subst er1
            exact wpAny_Name (wpAny_loadName_cell hk (V.kindOf hs) e1 e4 ⟨_, S, H, rfl, Ext.refl, I, e6⟩) hd'
      | globalImplicit =>
        dsimp only at hne ⊢
        cases hc : G.C.consts.lookup x with
        | none => rw [hc] at hne; exact absurd rfl hne
        | some d =>
          refine ob12 (K.const x d hc) fun v e1 e2 => ?_
          refine Calls.Name_function_global hk (V.kindOf hs) (Calls.loadGlobal_global (mg := G.mg) ?_ e1 ⟨_, S, H, rfl, Ext.refl, I, const_rd I e2⟩) hd'
          rw [V.glob]; exact K.g.keeps I.stays
      | _ => exact absurd rfl hne
set_option tactic.hygienic true in
theorem glob_inv {x : Str} (h : isGlobal sc x = true) : (x == ("__debug__" : Str)) = false /\ ∃ i, slot sc.names x = some (i, .globalImplicit) := by
  unfold isGlobal at h
  by_cases hd : (x == ("__debug__" : Str)) = true
  · rw [if_pos hd] at h; cases h
  · rw [if_neg hd] at h
    refine ⟨by simpa using hd, ?_⟩
    split at h
    · rename_i i hs; exact mk11 i hs
    · cases h
theorem fname_ok (K : G.Ok) (I : Inv G fs H S s) (V : EnvOk G H s.heap env sc σ) {x : Str} {pos : Pos} {v : Value} (h : isGlobal sc x = true) (hv : G.mg x = some v) {Q : Value -> Shared -> Prop} {E : Value -> Shared -> Prop} (hQ : Q v s) :
    wpAny G.M A (eval (.Name x pos) env) Q E s := by
  obtain ⟨hd, i, hs⟩ := glob_inv h
  have hk : env.scope.kind = .function := by rw [V.scope]; exact V.kind
  refine Calls.Name_function_global hk (V.kindOf hs) (Calls.loadGlobal_global (mg := G.mg) ?_ hv hQ) hd
  rw [V.glob]; exact K.g.keeps I.stays
theorem bname_ok (K : G.Ok) (I : Inv G fs H S s) (V : EnvOk G H s.heap env sc σ) {x : Str} {pos : Pos} {v : Value} (h : isGlobal sc x = true) (hx : x ∈ biNames) (hv : bootBuiltins x = some v) (hn : x ≠ "__name__") {Q : Value -> Shared -> Prop} {E : Value -> Shared -> Prop} (hQ : Q v s) :
    wpAny G.M A (eval (.Name x pos) env) Q E s := by
  obtain ⟨hd, i, hs⟩ := glob_inv h
  have hk : env.scope.kind = .function := by rw [V.scope]; exact V.kind
  refine Calls.Name_function_global hk (V.kindOf hs) (Calls.loadGlobal_builtin (mg := G.mg) (mb := G.mb) ?_ (K.miss x hx) ?_ ((K.builtins x hn).trans hv) hQ) hd
  · rw [V.glob]; exact K.g.keeps I.stays
  · rw [V.bi]; exact K.b.keeps I.stays
theorem Inv.setF {a : Addr} {h' : Heap} {tk : Nat} (I : Inv G fs H S s) (ha : a ∈ H.fr) (hk : ∀ b o, b ≠ a -> s.heap.get? b = some o -> h'.get? b = some o) (hs : s.heap.objs.size <= h'.objs.size)
    (hl : ∃ o, h'.get? a = some o /\ (plainO o = false \/ ∀ env ∈ fs, env.frame ≠ some a)) : Inv G fs H S { s with heap := h', toks := tk } /\ Ext [a] H s.heap H h' := by
  have x : Ext [a] H s.heap H h' := ⟨rfl, ⟨[], by simp, by simp⟩, fun b o _ h2 e => hk b o (fun q => h2 (q ▸ ha)) e, fun b o _ h3 e => ⟨o.slots, hk b o (fun q => h3 (by simp [q])) e, fun _ => rfl⟩, hs⟩
  refine ⟨⟨fun b o e => hk b o (fun q => ?_) (I.stays b o e), I.newS, I.newF, I.off, fun b hb => ?_, I.nodup, I.len, fun m o e => ?_, ?_, I.gens, I.os⟩, x⟩
  · rw [q, I.newF a ha] at e; cases e
  · by_cases hb' : b = a
    · subst hb'; refine ob12 hl fun o e _ => ?_; clear hl; exact mk11 o e
    · refine ob11 (I.liveF b hb) fun o e => ?_; exact mk11 o (hk b o hb' e)
  · refine ob12 (I.objs m o e) fun b e1 e2 => ?_
    exact mk12 b e1 (e2.step x fun ob q => hk b _ (fun q => I.off b (List.mem_of_getElem? e1) (q ▸ ha)) q)
  · intro env he
    obtain ⟨a1, L, o, a2, a3, a4, a5⟩ := I.fa env he
    by_cases hL : L = a
    · subst hL
      refine ob12 hl fun o' e' q => ?_; clear hl
      refine ⟨a1, L, o', a2, a3, e', ?_⟩
      rcases q with q | q
      · exact q
      · exact absurd a2 (q env he)
    · exact ⟨a1, L, o, a2, a3, hk L o hL a4, a5⟩
theorem lookup_mem {c : Addr} {x : Str} : ∀ {l : List (Str × Addr)}, l.lookup x = some c -> c ∈ l.map (·.2)
  | [], h => by cases h
  | p :: l, h => by
    rw [List.lookup_cons] at h
    split at h
    · cases h; simp
    · simp only [List.map_cons, List.mem_cons]; exact .inr (lookup_mem h)
theorem put_get {i j : Nat} {d e : D} (h : (put σ i d)[j]? = some (some e)) : (j = i /\ e = d) \/ (j ≠ i /\ σ[j]? = some (some e)) := by
  unfold put at h
  by_cases hj : j = i
  · subst hj
    rw [List.getElem?_set] at h
    simp only [if_true] at h
    split at h
    · left; refine ⟨rfl, ?_⟩; simpa using h.symm
    · cases h
  · right; exact ⟨hj, by rwa [List.getElem?_set_ne (Ne.symm hj)] at h⟩
set_option tactic.hygienic true in
theorem put_ok (I : Inv G fs H S s) (V : EnvOk G H s.heap env sc σ) {x : Str} {v : Value} {d : D} {σ' : Sg} (r : Rd G.P H s.heap v d) (e : putName sc σ x d = some σ') {Q : Unit -> Shared -> Prop} {E : Value -> Shared -> Prop}
    (hQ : ∀ h' tk, Ext (xs env) H s.heap H h' -> Inv G fs H S { s with heap := h', toks := tk } -> EnvOk G H h' env sc σ' -> Q () { s with heap := h', toks := tk }) : wpAny G.M A (storeName env x v) Q E s := by
  have hk : env.scope.kind = .function := by rw [V.scope]; exact V.kind
  unfold putName at e
  split at e
  · rename_i i hs
    cases e
    refine ob12 V.ns fun m hn hm => ?_
    refine wpAny_storeName_local (V.kindOf hs) hn (fun h' hn' hs' => ?_) (by rw [hk]; rfl)
    obtain ⟨J, x'⟩ := I.setF (tk := s.toks + 1) V.inF (fun b o hb e => (hs'.2 b hb).trans e) (Nat.le_of_eq hs'.1.symm) (by
      refine ob33 hn' fun o es ep q1 q2 _ => ?_; clear hn'
      exact mk12 o q1 (.inl (by unfold plainO; rw [q2])))
    refine hQ h' _ (x'.mono (by simp)) J ⟨V.scope, V.kind, V.glob, V.bi, V.inF, ⟨_, hn', fun y j e q1 q2 => ?_⟩, fun y j q => ?_, V.cin, V.inj⟩
    · rcases put_get q2 with ⟨rfl, rfl⟩ | ⟨hj, q2⟩
      · obtain rfl := slot_inj hs q1
        exact mk12 v (by simp) (r.step x')
      · have hy : y ≠ x := fun q => hj (by rw [q, hs] at q1; cases q1; rfl)
        refine ob12 (hm y j e q1 q2) fun u q3 q4 => ?_
        exact mk12 u (by simp [hy, q3]) (q4.step x')
    · obtain ⟨c, e1, e2, e3, v?, e4, e5⟩ := V.cells y j q
      refine ⟨c, e1, e2, e3, v?, e4.sameBut hs' e3, fun e q2 => ?_⟩
      rcases put_get q2 with ⟨rfl, rfl⟩ | ⟨hj, q2⟩
      · obtain rfl := slot_inj hs q
        rw [hs] at q; cases q
      · refine ob12 (e5 e q2) fun u q3 q4 => ?_
        exact mk12 u q3 (q4.step x')
  · rename_i i hs
    cases e
    obtain ⟨c, e1, e2, e3, v?, e4, e5⟩ := V.cells x i hs
    refine wpAny_storeName_cell hk (V.kindOf hs) e1 e4 fun h' hc' hs' => ?_
    obtain ⟨J, x'⟩ := I.setF (tk := s.toks) e2 (fun b o hb e => (hs'.2 b hb).trans e) (Nat.le_of_eq hs'.1.symm) (by
      refine ob12 hc' fun o q1 q2 => ?_; clear hc'
      refine mk12 o q1 (.inr fun env he q => ?_)
      refine ob12 e4 fun o' q3 q4 => ?_; clear e4
      obtain ⟨_, L, o'', f1, f2, f3, f4⟩ := I.fa env he
      rw [q] at f1; cases f1
      rw [q3] at f3; cases f3
      unfold plainO at f4; rw [q4] at f4; cases f4)
    have hmem : c ∈ env.cells.map (·.2) := lookup_mem e1
    refine ob12 V.ns fun m hn hm => ?_
    refine hQ h' _ (x'.mono (by intro b hb; simp only [List.mem_singleton] at hb; subst hb; exact List.mem_cons_of_mem _ hmem)) J
      ⟨V.scope, V.kind, V.glob, V.bi, V.inF, ⟨m, hn.sameBut hs' (Ne.symm e3), fun y j e q1 q2 => ?_⟩, fun y j q => ?_, V.cin, V.inj⟩
    · rcases put_get q2 with ⟨rfl, rfl⟩ | ⟨hj, q2⟩
      · obtain rfl := slot_inj hs q1
        rw [hs] at q1; cases q1
      · refine ob12 (hm y j e q1 q2) fun u q3 q4 => ?_
        exact mk12 u q3 (q4.step x')
    · by_cases hy : y = x
      · subst hy
        rw [hs] at q; cases q
        refine ⟨c, e1, e2, e3, some v, hc', fun e q2 => ?_⟩
        rcases put_get q2 with ⟨_, rfl⟩ | ⟨hj, q2⟩
        · exact mk12 v rfl (r.step x')
        · exact absurd rfl hj
      · obtain ⟨c', f1, f2, f3, w?, f4, f5⟩ := V.cells y j q
        have hcc : c' ≠ c := fun z => hy (V.inj y x j i c q hs (z ▸ f1) e1)
        refine ⟨c', f1, f2, f3, w?, f4.sameBut hs' hcc, fun e q2 => ?_⟩
        rcases put_get q2 with ⟨rfl, rfl⟩ | ⟨hj, q2⟩
        · exact absurd (slot_inj q hs) hy
        · refine ob12 (f5 e q2) fun u q3 q4 => ?_
          exact mk12 u q3 (q4.step x')
  · cases e
theorem EnvOk.mono {σ' : Sg} (V : EnvOk G H s.heap env sc σ') (hσ : ∀ (i : Nat) (d : D), σ[i]? = some (some d) -> σ'[i]? = some (some d)) : EnvOk G H s.heap env sc σ where
  scope := V.scope
  kind := V.kind
  glob := V.glob
  bi := V.bi
  inF := V.inF
  ns := let ⟨m, h1, h2⟩ := V.ns; ⟨m, h1, fun x i d q1 q2 => h2 x i d q1 (hσ i d q2)⟩
  cells := fun x i q => let ⟨c, h1, h2, h3, v, h4, h5⟩ := V.cells x i q; ⟨c, h1, h2, h3, v, h4, fun d q => h5 d (hσ i d q)⟩
  cin := V.cin
  inj := V.inj
end
end Mine
end

section
namespace Mine
open PySem
section
variable {C : Cfg} {cf : Str -> List D -> EM D} {sc : Scope} {σ : Sg} {pos p : Pos} {k : Nat}
theorem q_all0 : evAll C cf [] sc σ = ret [] := rfl
theorem q_all1 {e : Expr} {r : List Expr} : evAll C cf (e :: r) sc σ = bnd (ev C cf e sc σ) fun d => bnd (evAll C cf r sc σ) fun ds => ret (d :: ds) := rfl
theorem q_none : ev C cf (.Constant .none k pos) sc σ = ret .none := rfl
theorem q_bool {b : Bool} : ev C cf (.Constant (.bool b) k pos) sc σ = ret (.bool b) := rfl
theorem q_int {i : Int} : ev C cf (.Constant (.int i) k pos) sc σ = ret (.int i) := rfl
theorem q_str {x : Str} : ev C cf (.Constant (.str x) k pos) sc σ = if PyData.strOk x && decide (x.length <= sizeLine) then ret (.str x) else stk := rfl
theorem q_bin {l r : Expr} {op : Operator} : ev C cf (.BinOp l op r pos) sc σ = bnd (ev C cf l sc σ) fun a => bnd (ev C cf r sc σ) fun b => binop C pos op a b := rfl
theorem q_un {x : Expr} {op : UnaryOp} : ev C cf (.UnaryOp op x pos) sc σ = bnd (ev C cf x sc σ) fun a => unop op a := rfl
theorem q_tup {es : List Expr} : ev C cf (.Tuple es k pos) sc σ = bnd (evAll C cf es sc σ) fun ds => if ds.length <= sizeLine then ret (.tuple ds) else stk := rfl
theorem q_lst {es : List Expr} : ev C cf (.List es pos) sc σ = bnd (evAll C cf es sc σ) fun ds => if ds.length <= sizeLine then mkList C pos ds else stk := rfl
theorem q_opt0 : evOpt C cf none sc σ = ret .none := rfl
theorem q_opt1 {e : Expr} : evOpt C cf (some e) sc σ = ev C cf e sc σ := rfl
theorem q_sub {v i : Expr} : ev C cf (.Subscript v i pos) sc σ = bnd (ev C cf v sc σ) fun a => evSub C cf i sc σ a pos (ev C cf i sc σ) := rfl
theorem q_notT {x : Expr} {w : EM D} : evT C cf (.UnaryOp .Not x pos) sc σ w = bnd (evT C cf x sc σ (ev C cf x sc σ)) fun b => ret (!b) := rfl
theorem q_boolT {op : BoolOp} {es : List Expr} {w : EM D} : evT C cf (.BoolOp op es pos) sc σ w = evTAll C cf op es sc σ := rfl
theorem q_cmpT {l : Expr} {ops : List CmpOp} {rs : List Expr} {w : EM D} : evT C cf (.Compare l ops rs pos) sc σ w = bnd (ev C cf l sc σ) fun a => evCmp C cf a ops rs sc σ := rfl
theorem q_t0 {op : BoolOp} : evTAll C cf op [] sc σ = ret (op == .And) := rfl
theorem q_tA {e : Expr} {r : List Expr} : evTAll C cf .And (e :: r) sc σ = bnd (evT C cf e sc σ (ev C cf e sc σ)) fun t => match t with
    | true => evTAll C cf .And r sc σ
    | false => ret false := rfl
theorem q_tO {e : Expr} {r : List Expr} : evTAll C cf .Or (e :: r) sc σ = bnd (evT C cf e sc σ (ev C cf e sc σ)) fun t => match t with
    | true => ret true
    | false => evTAll C cf .Or r sc σ := rfl
theorem q_cmp {l : Expr} {ops : List CmpOp} {rs : List Expr} : ev C cf (.Compare l ops rs pos) sc σ = bnd (ev C cf l sc σ) fun a => bnd (evCmp C cf a ops rs sc σ) fun b => ret (.bool b) := rfl
theorem q_boolV {op : BoolOp} {es : List Expr} : ev C cf (.BoolOp op es pos) sc σ = evBool C cf op es sc σ := rfl
theorem q_name {x : Str} : ev C cf (.Name x pos) sc σ = nameD C sc σ x := rfl
theorem q_if {t : Expr} {b o : List Stmt} : ex C cf (.If t b o pos) sc σ = bnd (evT C cf t sc σ (ev C cf t sc σ)) fun c => if c then exs C cf b sc σ else exs C cf o sc σ := rfl
end
section
variable (G : Glo) (fs : List Env) (A : Around) (cf : CF)
noncomputable def EvOk (e : Expr) : Prop := ∀ {H : Hid} {S : Store} {s : Shared} {env : Env} {sc : Scope} {σ : Sg}, Inv G fs H S s -> EnvOk G H s.heap env sc σ -> Wp G fs A (RR G) H S s (eval e env) (ev G.C cf e sc σ)
noncomputable def AllOk (es : List Expr) : Prop := ∀ {H : Hid} {S : Store} {s : Shared} {env : Env} {sc : Scope} {σ : Sg} (pos : Pos), Inv G fs H S s -> EnvOk G H s.heap env sc σ ->
  Wp G fs A (RL G) H S s (spliced (backTo pos (starEach es env))) (evAll G.C cf es sc σ)
noncomputable def TOk (e : Expr) : Prop := ∀ {H : Hid} {S : Store} {s : Shared} {env : Env} {sc : Scope} {σ : Sg}, Inv G fs H S s -> EnvOk G H s.heap env sc σ ->
  Wp G fs A RB H S s (isTrue e env (eval e env)) (evT G.C cf e sc σ (ev G.C cf e sc σ))
noncomputable def TAllOk (es : List Expr) : Prop := ∀ {H : Hid} {S : Store} {s : Shared} {env : Env} {sc : Scope} {σ : Sg} (op : BoolOp), Inv G fs H S s -> EnvOk G H s.heap env sc σ ->
  Wp G fs A RB H S s (allTrue op es env) (evTAll G.C cf op es sc σ)
noncomputable def TestsOk (es : List Expr) : Prop := ∀ {H : Hid} {S : Store} {s : Shared} {env : Env} {sc : Scope} {σ : Sg}, Inv G fs H S s -> EnvOk G H s.heap env sc σ ->
  Wp G fs A RB H S s (forIn es true fun c r => if r = true then do let ok <- isTrue c env (eval c env); pure (ForInStep.yield ok) else pure (ForInStep.yield r)) (evTAll G.C cf .And es sc σ)
noncomputable def CmpOk (es : List Expr) : Prop := ∀ {H : Hid} {S : Store} {s : Shared} {env : Env} {sc : Scope} {σ : Sg} (pos : Pos) (ops : List CmpOp) {v : Value} {a : D}, Inv G fs H S s -> EnvOk G H s.heap env sc σ -> Rd G.P H s.heap v a ->
  Wp G fs A RV H S s (compareChain pos v ops (markedEach ops es (evalEach es env))) (evCmp G.C cf a ops es sc σ)
noncomputable def ChainOk (es : List Expr) : Prop := ∀ {H : Hid} {S : Store} {s : Shared} {env : Env} {sc : Scope} {σ : Sg} (pos : Pos) (ops : List CmpOp) {v : Value} {a : D}, Inv G fs H S s -> EnvOk G H s.heap env sc σ -> Rd G.P H s.heap v a ->
  Wp G fs A RB H S s (testChain pos v ops (markedEach ops es (evalEach es env))) (evCmp G.C cf a ops es sc σ)
noncomputable def BoolsOk (es : List Expr) : Prop := ∀ {H : Hid} {S : Store} {s : Shared} {env : Env} {sc : Scope} {σ : Sg} (pos : Pos) (op : BoolOp), Inv G fs H S s -> EnvOk G H s.heap env sc σ ->
  Wp G fs A (RR G) H S s (boolOp pos op (evalEach es env)) (evBool G.C cf op es sc σ)
noncomputable def OptOk (e : Option Expr) : Prop := ∀ {H : Hid} {S : Store} {s : Shared} {env : Env} {sc : Scope} {σ : Sg}, Inv G fs H S s -> EnvOk G H s.heap env sc σ -> Wp G fs A (RR G) H S s (evalPart e env) (evOpt G.C cf e sc σ)
structure Cx0 (fs : List Env) (A : Around) (r : Nat) : Prop where
  handled : A.handled = none
  frames : A.frames = some fs
  depth : A.depth + 2 * r <= 851
  units : A.units + 4 * r <= 8901
omit cf G in
theorem Cxt.cx {G : Glo} {fs : List Env} {A : Around} {r : Nat} (X : Cxt G fs A r) : Cx0 fs A r := ⟨X.handled, X.frames, Nat.le_trans X.depth (by decide), Nat.le_trans X.units (by decide)⟩
noncomputable def CfOk (r : Nat) : Prop := ∀ {fs : List Env} {A : Around} {H : Hid} {S : Store} {s : Shared} {f : Str} {fn : Fn} {a : Addr} {vs : List Value} {ds : List D}, Cx0 fs A r -> Inv G fs H S s -> fnLook G.C f = some fn -> FnAt G fn a ->
  RdAll G.P H s.heap vs ds -> cf f ds S ≠ .stuck -> wpAny G.M A (call (.ref a) vs) (PV G fs (RR G) H s.heap (cf f ds S)) NoE s
end
section
variable {G : Glo} {fs : List Env} {A : Around} {cf : Str -> List D -> EM D} {r : Nat} {H : Hid} {S : Store} {s : Shared}
theorem star_cons {e : Expr} (h : ∀ e' p, e ≠ .Starred e' p) (l : List Expr) (env : Env) : starEach (e :: l) env = (false, eval e env) :: starEach l env := by
  cases e <;> first | rfl | exact absurd rfl (h _ _)
theorem notStar {α : Type} {C : Cfg} {e : Expr} {sc : Scope} {σ : Sg} {f : D -> EM α} (h : bnd (ev C cf e sc σ) f S ≠ .stuck) : ∀ e' p, e ≠ .Starred e' p := by
  rintro e' p rfl
  exact h rfl
theorem notSet {α : Type} {C : Cfg} {e : Expr} {sc : Scope} {σ : Sg} {f : D -> EM α} (h : bnd (ev C cf e sc σ) f S ≠ .stuck) (op : CmpOp) : behindInMarks op e = false := by
  cases e <;> first | rfl | exact absurd rfl h
theorem folded {C : Cfg} {e : Expr} {sc : Scope} {σ : Sg} {α : Type} {f : D -> EM α} (h : bnd (ev C cf e sc σ) f S ≠ .stuck) (env : Env) (x : Value) : foldedSetIterable e env x = pure x := by
  cases e <;> first | rfl | exact absurd rfl h
theorem all_nil : AllOk G fs A cf [] := by
  intro H S s env sc σ pos I V
  rw [q_all0]
  exact fun _ => wpAny_items_nil ⟨_, S, H, rfl, Ext.refl, I, .nil⟩
theorem all_cons (K : G.Ok) {e : Expr} {l : List Expr} (he : EvOk G fs A cf e) (hl : AllOk G fs A cf l) : AllOk G fs A cf (e :: l) := by
  intro H S s env sc σ pos I V
  rw [q_all1]
  intro hne
  refine wpAny_items_cons ((he I V).then K hne fun v d H1 S1 s1 e1 q1 n1 x1 I1 r1 => ?_) (star_cons (notStar hne) l env)
  rw [q1]
  refine (hl pos I1 (V.step x1)).then K n1 fun vs ds H2 S2 s2 e2 q2 n2 x2 I2 r2 => ?_
  rw [q2]
  exact mk34 _ S2 H2 rfl (x1.trans x2) I2 (.cons (r1.step x2) r2)
theorem const_ok (c : Const) (k : Nat) (pos : Pos) : EvOk G fs A cf (.Constant c k pos) := by
  intro H S s env sc σ I V
  cases c with
  | none => rw [q_none]; exact fun _ => wpAny_Constant_none ⟨_, S, H, rfl, Ext.refl, I, .none⟩
  | bool b => rw [q_bool]; exact fun _ => wpAny_Constant_bool ⟨_, S, H, rfl, Ext.refl, I, .bool b⟩
  | int i => rw [q_int]; exact fun _ => wpAny_Constant_int ⟨_, S, H, rfl, Ext.refl, I.toks, .int i _⟩
  | str x =>
    rw [q_str]
    intro hne
    by_cases hx : (PyData.strOk x && decide (x.length <= sizeLine)) = true
    · rw [if_pos hx]
      simp only [Bool.and_eq_true, decide_eq_true_eq] at hx
      exact wpAny_Constant_str ⟨_, S, H, rfl, Ext.refl, I.toks, .str x _ hx.1 hx.2⟩
    · rw [if_neg hx] at hne; exact absurd rfl hne
  | _ => exact fun h => absurd rfl h
theorem binop_arm (K : G.Ok) (X : Cxt G fs A r) {l rr : Expr} {op : Operator} {pos : Pos} (hl : EvOk G fs A cf l) (hr : EvOk G fs A cf rr) : EvOk G fs A cf (.BinOp l op rr pos) := by
  intro H S s env sc σ I V
  rw [q_bin]
  intro hne
  refine wpAny_BinOp ((hl I V).then K hne fun v d H1 S1 s1 e1 q1 n1 x1 I1 r1 => ?_)
  rw [q1]
  refine (hr I1 (V.step x1)).then K n1 fun u d2 H2 S2 s2 e2 q2 n2 x2 I2 r2 => ?_
  rw [q2]
  exact (binop_ok K X I2 (r1.step x2) r2 G.C pos op).go K n2 fun v3 d3 H3 S3 s3 e3 x3 I3 r3 => e3 ▸ ⟨_, S3, H3, rfl, (x1.trans x2).trans x3, I3, r3⟩
theorem unop_arm (K : G.Ok) {x : Expr} {op : UnaryOp} {pos : Pos} (hx : EvOk G fs A cf x) : EvOk G fs A cf (.UnaryOp op x pos) := by
  intro H S s env sc σ I V
  rw [q_un]
  intro hne
  refine wpAny_UnaryOp ((hx I V).then K hne fun v d H1 S1 s1 e1 q1 n1 x1 I1 r1 => ?_)
  rw [q1]
  exact (unop_ok I1 r1 op).go K n1 fun v3 d3 H3 S3 s3 e3 x3 I3 r3 => e3 ▸ ⟨_, S3, H3, rfl, x1.trans x3, I3, r3⟩
theorem tuple_arm (K : G.Ok) {es : List Expr} {k : Nat} {pos : Pos} (h : AllOk G fs A cf es) : EvOk G fs A cf (.Tuple es k pos) := by
  intro H S s env sc σ I V
  rw [q_tup]
  intro hne
  refine wpAny_Tuple ((h pos I V).then K hne fun vs ds H1 S1 s1 e1 q1 n1 x1 I1 r1 => ?_)
  rw [q1]
  by_cases hz : ds.length <= sizeLine
  · rw [if_pos hz]
    have hz' : vs.length <= sizeLine := by rw [r1.length]; exact hz
    exact ⟨hz', (newTuple_ok (tk := s1.toks) I1 r1 hz').trans x1⟩
  · rw [if_neg hz] at n1; exact absurd rfl n1
theorem list_arm (K : G.Ok) {es : List Expr} {pos : Pos} (h : AllOk G fs A cf es) : EvOk G fs A cf (.List es pos) := by
  intro H S s env sc σ I V
  rw [q_lst]
  intro hne
  refine wpAny_List ((h pos I V).then K hne fun vs ds H1 S1 s1 e1 q1 n1 x1 I1 r1 => ?_)
  rw [q1]
  by_cases hz : ds.length <= sizeLine
  · rw [if_pos hz]
    have hz' : vs.length <= sizeLine := by rw [r1.length]; exact hz
    exact ⟨hz', (newList_ok (tk := s1.toks) I1 r1 hz' G.C pos).trans x1⟩
  · rw [if_neg hz] at n1; exact absurd rfl n1
theorem opt_none : OptOk G fs A cf none := by
  intro H S s env sc σ I V
  rw [q_opt0]
  exact fun _ => wpAny_pure ⟨_, S, H, rfl, Ext.refl, I, .none⟩
theorem opt_some {e : Expr} (h : EvOk G fs A cf e) : OptOk G fs A cf (some e) := by
  intro H S s env sc σ I V
  rw [q_opt1]
  exact h I V
theorem slice_arm (K : G.Ok) {v : Expr} {lo hi : Option Expr} {p pos : Pos} (hv : EvOk G fs A cf v) (hl : OptOk G fs A cf lo) (hh : OptOk G fs A cf hi) : EvOk G fs A cf (.Subscript v (.Slice lo hi none p) pos) := by
  intro H S s env sc σ I V
  rw [q_sub]
  have he : ∀ a w, evSub G.C cf (.Slice lo hi none p) sc σ a pos w = bnd (evOpt G.C cf lo sc σ) fun l => bnd (evOpt G.C cf hi sc σ) fun h => sliceM G.C pos a l h := fun _ _ => rfl
  intro hne
  simp only [he] at hne ⊢
  refine PyProof.Rows.Subscript_ ((hv I V).then K hne fun v d H1 S1 s1 e1 q1 n1 x1 I1 r1 => ?_)
  rw [q1]
  refine wpAny_Slice ((hl I1 (V.step x1)).then K n1 fun vl dl H2 S2 s2 e2 q2 n2 x2 I2 r2 => ?_)
  rw [q2]
  refine (hh I2 ((V.step x1).step x2)).then K n2 fun vu du H3 S3 s3 e3 q3 n3 x3 I3 r3 => ?_
  rw [q3]
  refine wpAny_pure ?_
  exact wpAny_mono (slice_ok I3 ((r1.step x2).step x3) (r2.step x3) r3 G.C pos n3) (fun _ _ p => p.trans ((x1.trans x2).trans x3)) fun _ _ p => p
theorem item_arm (K : G.Ok) (hu : A.units <= 8900) {v i : Expr} {pos : Pos} (hn : ∀ lo hi st p, i ≠ .Slice lo hi st p) (hv : EvOk G fs A cf v) (hi : EvOk G fs A cf i) : EvOk G fs A cf (.Subscript v i pos) := by
  intro H S s env sc σ I V
  rw [q_sub]
  have he : ∀ a w, evSub G.C cf i sc σ a pos w = bnd w fun i => itemM a i := by
    intro a w
    cases i <;> first | rfl | exact absurd rfl (hn _ _ _ _)
  intro hne
  simp only [he] at hne ⊢
  refine PyProof.Rows.Subscript_ ((hv I V).then K hne fun v d H1 S1 s1 e1 q1 n1 x1 I1 r1 => ?_)
  rw [q1]
  refine (hi I1 (V.step x1)).then K n1 fun u d2 H2 S2 s2 e2 q2 n2 x2 I2 r2 => ?_
  rw [q2]
  exact wpAny_mono (item_ok hu I2 (r1.step x2) r2 n2) (fun _ _ p => p.trans (x1.trans x2)) fun _ _ p => p
theorem not_arm (K : G.Ok) {x : Expr} {pos : Pos} (h : TOk G fs A cf x) : TOk G fs A cf (.UnaryOp .Not x pos) := by
  intro H S s env sc σ I V
  rw [q_notT]
  intro hne
  refine wpAny_isTrue_Not ((h I V).then K hne fun v d H1 S1 s1 e1 q1 n1 x1 I1 r1 => ?_)
  rw [q1]
  cases r1
  exact mk34 _ S1 H1 rfl x1 I1 rfl
theorem boolT_arm {op : BoolOp} {es : List Expr} {pos : Pos} (h : TAllOk G fs A cf es) : TOk G fs A cf (.BoolOp op es pos) := by
  intro H S s env sc σ I V
  rw [q_boolT]
  exact fun hne => wpAny_isTrue_BoolOp (h op I V hne)
theorem cmpT_arm (K : G.Ok) {l : Expr} {ops : List CmpOp} {rs : List Expr} {pos : Pos} (hl : EvOk G fs A cf l) (h : ChainOk G fs A cf rs) : TOk G fs A cf (.Compare l ops rs pos) := by
  intro H S s env sc σ I V
  rw [q_cmpT]
  intro hne
  rw [arm_isTrue_Compare]
  refine wpAny_bind ((hl I V).then K hne fun v d H1 S1 s1 e1 q1 n1 x1 I1 r1 => ?_)
  rw [q1]
  exact wpAny_mono (h pos ops I1 (V.step x1) r1 n1) (fun _ _ p => p.trans x1) fun _ _ p => p
theorem valT_arm (K : G.Ok) {e : Expr} (h1 : ∀ env whole, isTrue e env whole = (do let v <- whole; standAt e.pos; holding [v] (truthy v))) (h2 : ∀ sc σ w, evT G.C cf e sc σ w = bnd w truthM) (he : EvOk G fs A cf e) : TOk G fs A cf e := by
  intro H S s env sc σ I V
  rw [h2]
  intro hne
  refine wpAny_isTrue_value ((he I V).then K hne fun v d H1 S1 s1 e1 q1 n1 x1 I1 r1 => ?_) (h1 env _)
  rw [q1]
  exact wpAny_mono (truth_ok I1 r1 n1) (fun _ _ p => p.trans x1) fun _ _ p => p
theorem tall_nil : TAllOk G fs A cf [] := by
  intro H S s env sc σ op I V
  rw [q_t0]
  intro _
  cases op
  · exact wpAny_allTrue_And_nil ⟨_, S, H, rfl, Ext.refl, I, rfl⟩
  · exact wpAny_allTrue_Or_nil ⟨_, S, H, rfl, Ext.refl, I, rfl⟩
theorem tall_cons (K : G.Ok) {e : Expr} {l : List Expr} (he : TOk G fs A cf e) (hl : TAllOk G fs A cf l) : TAllOk G fs A cf (e :: l) := by
  intro H S s env sc σ op I V
  cases op with
  | And =>
    rw [q_tA]
    intro hne
    refine wpAny_allTrue_And_cons ((he I V).then K hne fun v d H1 S1 s1 e1 q1 n1 x1 I1 r1 => ?_)
    rw [q1]
    cases r1
    cases v with
    | false => exact mk34 _ S1 H1 rfl x1 I1 rfl
    | true => exact wpAny_mono (hl .And I1 (V.step x1) n1) (fun _ _ p => p.trans x1) fun _ _ p => p
  | Or =>
    rw [q_tO]
    intro hne
    refine wpAny_allTrue_Or_cons ((he I V).then K hne fun v d H1 S1 s1 e1 q1 n1 x1 I1 r1 => ?_)
    rw [q1]
    cases r1
    cases v with
    | true => exact mk34 _ S1 H1 rfl x1 I1 rfl
    | false => exact wpAny_mono (hl .Or I1 (V.step x1) n1) (fun _ _ p => p.trans x1) fun _ _ p => p
theorem tests_false {env : Env} {Q : Bool -> Shared -> Prop} {E : Value -> Shared -> Prop} (h : Q false s) : ∀ es : List Expr, wpAny G.M A (forIn es false fun c r => if r = true then do let ok <- isTrue c env (eval c env); pure (ForInStep.yield ok) else pure (ForInStep.yield r)) Q E s
  | [] => wpAny_pure h
  | e :: es => by
    rw [List.forIn_cons]
    exact wpAny_bind (wpAny_pure (tests_false h es))
theorem tests_nil : TestsOk G fs A cf [] := by
  intro H S s env sc σ I V
  rw [q_t0]
  exact fun _ => wpAny_pure ⟨_, S, H, rfl, Ext.refl, I, rfl⟩
theorem tests_cons (K : G.Ok) {e : Expr} {l : List Expr} (he : TOk G fs A cf e) (hl : TestsOk G fs A cf l) : TestsOk G fs A cf (e :: l) := by
  intro H S s env sc σ I V
  rw [q_tA]
  intro hne
  rw [List.forIn_cons]
  refine wpAny_bind (wpAny_bind ((he I V).then K hne fun v d H1 S1 s1 e1 q1 n1 x1 I1 r1 => ?_))
  rw [q1]
  cases r1
  refine wpAny_pure ?_
  cases v with
  | false => exact tests_false ⟨_, S1, H1, rfl, x1, I1, rfl⟩ l
  | true => exact wpAny_mono (hl I1 (V.step x1) n1) (fun _ _ p => p.trans x1) fun _ _ p => p
end
end Mine
end

section
namespace Mine
open PySem
section
variable {G : Glo} {fs : List Env} {A : Around} {cf : Str -> List D -> EM D} {r : Nat} {H : Hid} {S : Store} {s : Shared}
theorem chain_single {pos : Pos} {v : Value} {op : CmpOp} {e : Expr} {env : Env} (hm : behindInMarks op e = false) :
    compareChain pos v [op] (markedEach [op] [e] (evalEach [e] env)) = (do let rv <- holding [v] (eval e env); standAt pos; operate [v, rv] (compareOp op v rv)) := by
  show compareChain pos v [op] [markedBehindIn op e (eval e env)] = _
  unfold markedBehindIn
  rw [hm]; rfl
theorem test_single {pos : Pos} {v : Value} {op : CmpOp} {e : Expr} {env : Env} (hm : behindInMarks op e = false) :
    testChain pos v [op] (markedEach [op] [e] (evalEach [e] env)) = (do let rv <- holding [v] (eval e env); standAt pos; let c <- operate [v, rv] (compareOp op v rv); holding [c] (truthy c)) := by
  show testChain pos v [op] [markedBehindIn op e (eval e env)] = _
  unfold markedBehindIn
  rw [hm]; rfl
theorem evCmp_one {C : Cfg} {a : D} {op : CmpOp} {e : Expr} {sc : Scope} {σ : Sg} : evCmp C cf a [op] [e] sc σ = bnd (ev C cf e sc σ) fun b => cmpM op a b := rfl
theorem evCmp_no {C : Cfg} {a : D} {ops : List CmpOp} {e : Expr} {l : List Expr} {sc : Scope} {σ : Sg} (h : ¬ ((∃ op, ops = [op]) /\ l = [])) : evCmp C cf a ops (e :: l) sc σ S = .stuck := by
  match ops, l, h with
  | [], _, _ => rfl
  | [op], [], h => exact absurd ⟨⟨op, rfl⟩, rfl⟩ h
  | [_], _ :: _, _ => rfl
  | _ :: _ :: _, _, _ => rfl
theorem cmp_nil : CmpOk G fs A cf [] := by
  intro H S s env sc σ pos ops v a I V q
  match ops with
  | [] => exact fun h => absurd rfl h
  | [_] => exact fun h => absurd rfl h
  | _ :: _ :: _ => exact fun h => absurd rfl h
theorem chain_nil : ChainOk G fs A cf [] := by
  intro H S s env sc σ pos ops v a I V q
  match ops with
  | [] => exact fun h => absurd rfl h
  | [_] => exact fun h => absurd rfl h
  | _ :: _ :: _ => exact fun h => absurd rfl h
theorem cmp_cons (K : G.Ok) (hu : A.units <= 9000) {e : Expr} {l : List Expr} (he : EvOk G fs A cf e) : CmpOk G fs A cf (e :: l) := by
  intro H S s env sc σ pos ops v a I V rv
  by_cases h1 : (∃ op, ops = [op]) /\ l = []
  · obtain ⟨⟨op, rfl⟩, rfl⟩ := h1
    rw [evCmp_one]
    intro hne
    rw [chain_single (notSet hne op)]
    refine wpAny_bind (wpAny_holding ((he I V).then K hne fun u d H1 S1 s1 e1 q1 n1 x1 I1 r1 => ?_))
    rw [q1]
    refine wpAny_bind (wpAny_standAt (PyProof.Rows.wpAny_operate' ?_))
    exact wpAny_mono (cmp_ok I1 (rv.step x1) r1 hu op n1) (fun _ _ p => p.trans x1) fun _ _ p => p
  · exact Wp.stuck (evCmp_no h1)
theorem chain_cons (K : G.Ok) (X : Cxt G fs A r) {e : Expr} {l : List Expr} (he : EvOk G fs A cf e) : ChainOk G fs A cf (e :: l) := by
  intro H S s env sc σ pos ops v a I V rv
  have hu : A.units <= 9000 := Nat.le_trans (Nat.le_trans (Nat.le_add_right _ _) X.units) (by decide)
  by_cases h1 : (∃ op, ops = [op]) /\ l = []
  · obtain ⟨⟨op, rfl⟩, rfl⟩ := h1
    rw [evCmp_one]
    intro hne
    rw [test_single (notSet hne op)]
    refine wpAny_bind (wpAny_holding ((he I V).then K hne fun u d H1 S1 s1 e1 q1 n1 x1 I1 r1 => ?_))
    rw [q1]
    refine wpAny_bind (wpAny_standAt (wpAny_bind (PyProof.Rows.wpAny_operate' ((cmp_ok I1 (rv.step x1) r1 hu op).go K n1 fun c b H2 S2 s2 e2 x2 I2 r2 => ?_))))
    rw [e2]
    cases r2
    exact wpAny_holding (wpAny_truthy_bool ⟨_, _, H2, rfl, x1.trans x2, I2, rfl⟩)
  · exact Wp.stuck (evCmp_no h1)
theorem cmp_arm (K : G.Ok) {l : Expr} {ops : List CmpOp} {rs : List Expr} {pos : Pos} (hl : EvOk G fs A cf l) (h : CmpOk G fs A cf rs) : EvOk G fs A cf (.Compare l ops rs pos) := by
  intro H S s env sc σ I V
  rw [q_cmp]
  intro hne
  rw [arm_eval_Compare]
  refine wpAny_bind ((hl I V).then K hne fun v d H1 S1 s1 e1 q1 n1 x1 I1 r1 => ?_)
  rw [q1]
  refine (h pos ops I1 (V.step x1) r1).then K n1 fun c b H2 S2 s2 e2 q2 n2 x2 I2 r2 => ?_
  rw [q2]
  cases r2
  exact mk34 _ S2 H2 rfl (x1.trans x2) I2 (.bool b)
theorem bools_nil : BoolsOk G fs A cf [] := by
  intro H S s env sc σ pos op I V
  exact fun h => absurd rfl h
set_option backward.match.sparseCases true in
theorem bools_cons (K : G.Ok) {e : Expr} {l : List Expr} (he : EvOk G fs A cf e) (hl : BoolsOk G fs A cf l) : BoolsOk G fs A cf (e :: l) := by
  intro H S s env sc σ pos op I V
  cases l with
  | nil => exact he I V
  | cons e2 l =>
    have q : evBool G.C cf op (e :: e2 :: l) sc σ = bnd (ev G.C cf e sc σ) fun a => bnd (truthM a) fun t => match op with
      | .And => (match t with
        | true => evBool G.C cf .And (e2 :: l) sc σ
        | false => ret a)
      | .Or => (match t with
        | true => ret a
        | false => evBool G.C cf .Or (e2 :: l) sc σ) := rfl
    rw [q]
    intro hne
    have q' : boolOp pos op (evalEach (e :: e2 :: l) env) = (do
        let v <- eval e env
        standAt pos
        let t <- holding [v] (truthy v)
        match op, t with
        | .And, false | .Or, true => pure v
        | _, _ => boolOp pos op (evalEach (e2 :: l) env)) := rfl
    rw [q']
    refine wpAny_bind ((he I V).then K hne fun v a H1 S1 s1 e1 q1 n1 x1 I1 r1 => ?_)
    rw [q1]
    refine wpAny_bind (wpAny_standAt (wpAny_bind (wpAny_holding ((truth_ok I1 r1).then K n1 fun t t' H2 S2 s2 e2 q2 n2 x2 I2 r2 => ?_))))
    rw [q2]
    cases r2
    have x12 := x1.trans x2
    cases op with
    | And =>
      cases t with
      | false => exact wpAny_pure ⟨_, S2, H2, rfl, x12, I2, r1.step x2⟩
      | true => exact wpAny_mono (hl pos .And I2 (V.step x12) n2) (fun _ _ p => p.trans x12) fun _ _ p => p
    | Or =>
      cases t with
      | true => exact wpAny_pure ⟨_, S2, H2, rfl, x12, I2, r1.step x2⟩
      | false => exact wpAny_mono (hl pos .Or I2 (V.step x12) n2) (fun _ _ p => p.trans x12) fun _ _ p => p
theorem bool_arm {op : BoolOp} {es : List Expr} {pos : Pos} (h : BoolsOk G fs A cf es) : EvOk G fs A cf (.BoolOp op es pos) := by
  intro H S s env sc σ I V
  rw [q_boolV, arm_eval_BoolOp]
  exact h pos op I V
theorem noStar_cons {e : Expr} {l : List Expr} (h : noStar (e :: l) = true) : (∀ e' p, e ≠ .Starred e' p) /\ noStar l = true := by
  unfold noStar at h
  rw [List.all_cons, Bool.and_eq_true] at h
  refine ⟨?_, h.2⟩
  rintro e' p rfl
  cases h.1
theorem noStar_any (pos : Pos) (env : Env) : ∀ {l : List Expr}, noStar l = true -> (backTo pos (starEach l env)).any (·.1) = false
  | [], _ => rfl
  | e :: l, h => by
    refine ob02 (noStar_cons h) fun h1 h2 => ?_
    rw [star_cons h1]
    have := noStar_any pos env h2
    simpa [backTo] using this
theorem noStar_all (pos : Pos) (env : Env) {l : List Expr} (h : noStar l = true) : (backTo pos (starEach l env)).all (fun x => !x.1) = true := by
  have := noStar_any pos env h
  rw [List.any_eq_false] at this
  rw [List.all_eq_true]
  intro x hx
  have := this x hx
  simpa using this
theorem args_ok {β : Type} (K : G.Ok) {l : List Expr} {g : List D -> EM β} (hl : AllOk G fs A cf l) {env : Env} {sc : Scope} {σ : Sg} (pos : Pos) (f : Value) (I : Inv G fs H S s) (V : EnvOk G H s.heap env sc σ) (hs : noStar l = true) (hne : bnd (evAll G.C cf l sc σ) g S ≠ .stuck)
    {Q : Args -> Shared -> Prop} {E : Value -> Shared -> Prop}
    (hQ : ∀ vs ds H1 S1 s1, bnd (evAll G.C cf l sc σ) g S = g ds S1 -> g ds S1 ≠ .stuck -> Ext [] H s.heap H1 s1.heap -> Inv G fs H1 S1 s1 -> RdAll G.P H1 s1.heap vs ds -> Q ⟨vs, []⟩ s1) :
    wpAny G.M A (evalArgs f true (backTo pos (starEach l env)) []) Q E s := by
  have hA := (hl pos I V).then (Q := fun vs s1 => Q ⟨vs, []⟩ s1) (E := E) K hne fun vs ds H1 S1 s1 e1 q1 n1 x1 I1 r1 => hQ vs ds H1 S1 s1 q1 n1 x1 I1 r1
  cases l with
  | nil =>
    refine PySem.evalArgs_none ?_
    have : evAll G.C cf [] sc σ S = .ok [] S := rfl
    exact hQ [] [] H S s (bnd_at this) (by rw [<- bnd_at (f := g) this]; exact hne) Ext.refl I .nil
  | cons e l =>
    refine ob02 (noStar_cons hs) fun h1 h2 => ?_
    rw [star_cons h1] at hA ⊢
    exact Calls.evalArgs_plain hA
theorem fn_look {C : Cfg} {f : Str} {fn : Fn} (h : C.fns.lookup f = some fn) : fnLook C f = some fn := by unfold fnLook; rw [h]
theorem fcall_arm (K : G.Ok) (X : Cxt G fs A r) (hcf : CfOk G cf r) {x : Str} {np pos : Pos} {l : List Expr} (hl : AllOk G fs A cf l) {env : Env} {sc : Scope} {σ : Sg} {fn : Fn} (I : Inv G fs H S s) (V : EnvOk G H s.heap env sc σ)
    (hg : isGlobal sc x = true) (hs : noStar l = true) (hf : G.C.fns.lookup x = some fn) : Wp G fs A (RR G) H S s (eval (.Call (.Name x np) l [] pos) env) (bnd (evAll G.C cf l sc σ) fun ds => calm (cf x ds)) := by
  intro hne
  refine ob12 (K.fn x fn hf) fun a e1 F => ?_
  refine ob75 (id F) fun o nm q params pm code doc e2 e3 e4 e5 e6 => ?_
  refine wpAny_Call_NameR (fname_ok K I V hg e1 (Calls.callWith_function (o := o) (args_ok K hl pos (.ref a) I V hs hne fun vs ds H1 S1 s1 q1 n1 x1 I1 r1 => ⟨⟨I1.stays a o e2, e3⟩, ?_⟩)))
  rw [q1]
  exact wpAny_mono (hcf X.cx I1 (fn_look hf) F r1 n1) (fun _ _ p => p.trans x1) fun _ _ p => p
set_option tactic.hygienic true in
theorem bf_name {x : Str} {b : Bf} (h : bfOf x = some b) : x ∈ biNames /\ bootBuiltins x = some (bfVal b) /\ x ≠ "__name__" := by
  unfold bfOf at h
  have go : ∀ {y : Str}, (x == y) = true -> x = y := fun q => by simpa using q
  repeat' (split at h)
  all_goals first | cases h | skip
  all_goals (rename_i hx; obtain rfl := go hx; refine ⟨by decide +kernel, by rfl, by decide +kernel⟩)
theorem callB {pos : Pos} {args : List (Bool × Sem Value)} {Q : Value -> Shared -> Prop} {E : Value -> Shared -> Prop} (hp : args.any (·.1) = false) (b : Bf)
    (h : wpAny G.M A (evalArgs (bfVal b) true args []) (fun a s1 => wpAny G.M A (call (bfVal b) ([] ++ a.pos) a.kw) Q E s1) E s) : wpAny G.M A (callWith pos (bfVal b) [] args []) Q E s := by
  cases b with
  | len => exact Calls.callWith_builtin (id := "len") hp h
  | range => exact PySem.callWith_type (T := "range") hp h
  | all => exact Calls.callWith_builtin (id := "all") hp h
  | tuple => exact PySem.callWith_type (T := "tuple") hp h
  | list => exact PySem.callWith_type (T := "list") hp h
  | int => exact PySem.callWith_type (T := "int") hp h
theorem bcall_arm (K : G.Ok) (X : Cxt G fs A r) {x : Str} {np pos : Pos} {l : List Expr} (hl : AllOk G fs A cf l) {env : Env} {sc : Scope} {σ : Sg} {b : Bf} (I : Inv G fs H S s) (V : EnvOk G H s.heap env sc σ)
    (hg : isGlobal sc x = true) (hs : noStar l = true) (hb : bfOf x = some b) : Wp G fs A (RR G) H S s (eval (.Call (.Name x np) l [] pos) env) (bnd (evAll G.C cf l sc σ) fun ds => bfM G.C pos b ds) := by
  intro hne
  refine ob03 (bf_name hb) fun h1 h2 h3 => ?_
  refine wpAny_Call_NameR (bname_ok K I V hg h1 h2 h3 (callB (noStar_any pos env hs) b (args_ok K hl pos _ I V hs hne fun vs ds H1 S1 s1 q1 n1 x1 I1 r1 => ?_)))
  rw [q1]
  exact wpAny_mono (bf_ok X I1 r1 G.C pos b n1) (fun _ _ p => p.trans x1) fun _ _ p => p
end
end Mine
end

section
namespace Mine
open PySem
section
variable {G : Glo} {fs : List Env} {A : Around} {H : Hid} {S : Store} {s : Shared} {c : Str} {C N : Addr} {mN : Str -> Option Value}
theorem inst_at (I : Inv G fs H S s) {v : Value} {k dn : Nat} {ns : List (Str × D)} (hc : G.mg c = some (.ref C)) (r : Rd G.P H s.heap v (.loc k)) (h1 : S[k]? = some (.inst c dn)) (h2 : S[dn]? = some (.ns ns)) :
    ∃ a mA, v = .ref a /\ s.heap.Inst a C mA /\ ∀ x, (∀ d, ns.lookup x = some d -> ∃ v, mA x = some v /\ Rd G.P H s.heap v d) /\ (ns.lookup x = none -> mA x = none) := by
  cases r with | loc ha =>
  obtain ⟨a', e1, C', dx, o, q1, q2, q3, q4, q5, q6, q7⟩ := I.objs k _ h1
  rw [ha] at e1; cases e1
  rw [hc] at q1; cases q1
  obtain ⟨a2, e2, m, p1, p2⟩ := I.objs dn _ h2
  rw [q2] at e2; cases e2
  exact mk23 _ m rfl ⟨o, q4, q5, q7, .inr ⟨dx, q6, q3, p1⟩⟩ p2
theorem handed_rd {P : Params} {h : Heap} {v : Value} {d : D} (r : Rd P H h v d) : handedOut v = pure v := by cases r <;> rfl
theorem att_load (F : ClsOk G c C N mN) {x : Str} (ha : G.C.att c x = true) {v : Value} {k dn : Nat} {ns : List (Str × D)} {d : D} (I : Inv G fs H S s) (r : Rd G.P H s.heap v (.loc k)) (h1 : S[k]? = some (.inst c dn)) (h2 : S[dn]? = some (.ns ns)) (hl : ns.lookup x = some d) :
    wpAny G.M A (getAttr v x true) (PV G fs (RR G) H s.heap (Out.ok d S)) NoE s := by
  obtain ⟨nm, q, bs, sn, sub, col, dd, k0, k1, k2, k3, k5, hC⟩ := F.at'.obj
  refine ob23 (inst_at I F.mg r h1 h2) fun a mA er1 hI hm => ?_; subst er1
  refine ob12 ((hm x).1 d hl) fun u hu ru => ?_
  refine ob02 (F.att x ha) fun a1 a2 => ?_
  obtain ⟨hp, g, dr, tk, os⟩ := s
  exact load_attr (I.stays C _ hC) (F.at'.ns.keeps I.stays) F.q1 a1 a2 hI hu (handed_rd ru) ⟨d, S, H, rfl, Ext.refl, I.toks, ru⟩
end
end Mine
end

section
namespace Mine
open PySem
section
variable {prog : Program} {w : World} {A : Around} {E : Value -> Shared -> Prop} {h : Heap} {g : Array GenState} {d : Drawn} {t : Nat} {os : OsState}
variable {nm q : Str} {C N : Addr} {bs : List Value} {sn : List Str} {sub : List Value} {col : Option Bool} {dd : Option Addr} {k0 k1 k2 k3 k5 : Option Value}
noncomputable abbrev nsO : Obj := { cls := .type "dict", data := .dict #[] }
noncomputable abbrev insO (C dx : Addr) : Obj := { cls := .ref C, dict := some dx, data := .plain }
theorem new_at {mN : Str -> Option Value} {rest : List Value} {fI : Addr} {oI : Obj} {Q : Fin -> Shared -> Prop}
    (hC : h.get? C = some (excClassObj nm q C N bs [.type "object"] true sn sub false col dd k0 k1 k2 k3 k5 "object.__new__")) (hn : h.Ns N mN) (hi : mN "__init__" = some (.ref fI))
    (hfI : h.get? fI = some oI) (hfc : oI.cls = .type "function")
    (hq : wpAny (model prog w) A (call (.ref fI) (.ref (h.objs.size + 1) :: rest)) (fun r s' => r = .none /\ Q (.done (.ret (.ref (h.objs.size + 1)))) s') E ⟨(h.push nsO).push (insO C h.objs.size), g, d, t, os⟩) :
    wpAny (model prog w) A (Builtin.«type.__call__» ⟨.ref C :: rest, []⟩) Q E ⟨h, g, d, t, os⟩ := by
  have hmro : mroOf (.type "object") = pure [.type "object"] := by kernel_rfl
  have hlk : typeLookup (.type "object") "__init__" = pure (some (.builtin "object.__init__")) := by rw [typeLookup_type, builtinLookup_eq_fast]; kernel_rfl
  repeat (first | with_reducible refine wpAny_loadPart_at hC ?_ | with_reducible refine wpAny_madeBy_exc hC ?_ | wp_step)
  refine codeAny_call_builtin_code (Code.quiet_builtin _ F.objNew.quiet) (wpAny_check_obj_new F.objNew hC ?_)
  refine codeAny_obj_new F.objNew hC hn hi ?_
  show wpAny _ _ _ _ _ _
  have hC₁ := Heap.get?_push_of_some (insO C h.objs.size) (Heap.get?_push_of_some nsO hC)
  have hfI₁ := Heap.get?_push_of_some (insO C h.objs.size) (Heap.get?_push_of_some nsO hfI)
  have hn₁ : ((h.push nsO).push (insO C h.objs.size)).Ns N mN :=
    let ⟨o, es, ep, e, r⟩ := hn; ⟨o, es, ep, Heap.get?_push_of_some _ (Heap.get?_push_of_some _ e), r⟩
  have hget : ((h.push nsO).push (insO C h.objs.size)).get? (h.objs.size + 1) = some (insO C h.objs.size) := by heap_get
  have hcC : (Value.ref C :: [Value.type "object"]).contains (.ref C) = true := by simp
  unfold isInstance
  repeat (first | with_reducible refine wpAny_loadPart_at hget ?_ | (with_reducible refine wpAny_isSubtype_exc hC₁ ?_; rw [hcC]) | wp_step)
  show wpAny _ _ (typeLookup (.ref C) _) _ _ _
  refine wpAny_typeLookup_exc hC₁ hn₁ hmro hlk ?_
  rw [hi]
  refine wpAny_holding (wpAny_bind ?_)
  unfold bindSpecial
  refine wpAny_bind (wpAny_typeOf (T := "function") ⟨_, hfI₁, hfc⟩ ?_)
  rw [if_pos (by decide)]
  refine wpAny_pure (wpAny_bind (wpAny_mono hq (fun r s' hr => ?_) fun _ _ x => x))
  refine ob02 hr fun er1 hQ => ?_; clear hr; subst er1
  wp_walk
  exact hQ
theorem call_new {mN : Str -> Option Value} {rest : List Value} {fI : Addr} {oI : Obj} {Q : Value -> Shared -> Prop}
    (hC : h.get? C = some (excClassObj nm q C N bs [.type "object"] true sn sub false col dd k0 k1 k2 k3 k5 "object.__new__")) (hn : h.Ns N mN) (hi : mN "__init__" = some (.ref fI))
    (hfI : h.get? fI = some oI) (hfc : oI.cls = .type "function")
    (hq : wpAny (model prog w) (A.under (.builtin "type.__call__" ⟨.ref C :: rest, []⟩)) (call (.ref fI) (.ref (h.objs.size + 1) :: rest)) (fun r s' => r = .none /\ Q (.ref (h.objs.size + 1)) s') E ⟨(h.push nsO).push (insO C h.objs.size), g, d, t, os⟩) :
    wpAny (model prog w) A (call (.ref C) rest) Q E ⟨h, g, d, t, os⟩ := by
  have f1 := tc_lookup
  have f2 := tc_bind (.ref C)
  have hT : (⟨h, g, d, t, os⟩ : Shared).TypeIs (.ref C) "type" := mk12 _ hC rfl
  refine wpAny_call (codeAny_of_tree ?_)
  show wpAny _ _ (callAny (.ref C) _) _ _ _
  repeat (any_goals (first | assumption | with_reducible refine wpAny_loadPart_at hC ?_ | wp_step))
  refine ⟨rfl, ?_⟩
  exact codeAny_call_builtin_at (Code.quiet_builtin _ (by decide +kernel)) entry_typeCall (wpAny_check_type_call_sub hC (new_at hC hn hi hfI hfc hq))
theorem under_call {A : Around} {C : Addr} {rest : List Value} {fs : List Env} {r : Nat} {G : Glo} (X : Cxt G fs A r) : Cx0 fs (A.under (.builtin "type.__call__" ⟨.ref C :: rest, []⟩)) r := by
  have w1 : (Code.builtin "type.__call__" ⟨.ref C :: rest, []⟩).weight = 1 := by rfl
  have w2 : (Code.builtin "type.__call__" ⟨.ref C :: rest, []⟩).cUnits = 1 := by rfl
  have w3 : (Code.builtin "type.__call__" ⟨.ref C :: rest, []⟩).envs = [] := by rfl
  refine ⟨X.handled, ?_, ?_, ?_⟩
  · show pushEnvs (Code.builtin "type.__call__" ⟨.ref C :: rest, []⟩).envs A.frames = _
    rw [w3]; exact X.frames
  · show A.depth + _ + 2 * r <= 851
    rw [w1]; have := X.depth; lia
  · show A.units + _ + 4 * r <= 8901
    rw [w2]; have := X.units; lia
end
end Mine
end

section
namespace Mine
open PySem
section
variable {G : Glo} {fs : List Env} {A : Around} {cf : Str -> List D -> EM D} {r : Nat} {H : Hid} {S : Store} {s : Shared}
set_option tactic.hygienic true in
theorem instOf_inv {a : D} {p : Str × List (Str × D)} (h : instOf S a = some p) : ∃ n dn, a = .loc n /\ S[n]? = some (.inst p.1 dn) /\ S[dn]? = some (.ns p.2) := by
  unfold instOf at h
  split at h
  · rename_i n
    split at h
    · rename_i c dn hS
      split at h
      · rename_i fs hN
        cases h; exact mk23 n dn rfl hS hN
      · cases h
    · cases h
  · cases h
theorem methOk_inv {C : Cfg} {c m : Str} (h : methOk C c m = true) : C.clss.contains c = true /\ ∃ fn, C.cfs.lookup (mname c m) = some fn /\ fnLook C (mname c m) = some fn := by
  unfold methOk at h
  simp only [Bool.and_eq_true] at h
  obtain ⟨⟨h1, h2⟩, h3⟩ := h
  refine ob11 (Option.isSome_iff_exists.mp h2) fun fn e => ?_
  refine ⟨h1, fn, e, ?_⟩
  unfold fnLook
  rw [Option.isNone_iff_eq_none.mp h3]
  exact e
theorem clsM_inv {C : Cfg} {a : D} {m : Str} (h : clsM C a m S ≠ .stuck) : ∃ p, instOf S a = some p /\ methOk C p.1 m = true /\ p.2.lookup m = none /\ clsM C a m S = .ok (mname p.1 m) S := by
  unfold clsM at h ⊢
  cases hi : instOf S a with
  | none => rw [hi] at h; exact absurd rfl h
  | some p =>
    rw [hi] at h
    dsimp only at h ⊢
    by_cases hc : (methOk C p.1 m && (p.2.lookup m).isNone) = true
    · rw [if_pos hc]
      rw [Bool.and_eq_true] at hc
      exact mk14 p rfl hc.1 (Option.isNone_iff_eq_none.mp hc.2) rfl
    · rw [if_neg hc] at h; exact absurd rfl h
theorem call_own {o : Expr} {name : Str} {apos pos : Pos} {args : List Expr} {env : Env} {Q : Value -> Shared -> Prop} {E : Value -> Shared -> Prop}
    (hbase : attributeBase o name env (eval o env) = eval o env)
    (hfew : ((backTo pos (starEach args env)).all (fun x => !x.1) && (backToKw pos (keywordEach [] env)).all (fun x => x.1.isSome)
      && decide (args.length + ([] : List Keyword).length + (if ([] : List Keyword).isEmpty then 0 else 1) < 30)) = true)
    (hline : (apos.endLine == pos.line) = true)
    (h : wpAny G.M A (eval o env) (fun ov s₁ => ∀ pl, wpAny G.M A (getMethod ov name pl) (fun p s₂ => wpAny G.M A (callWith pos p.1 p.2 (backTo pos (starEach args env)) []) Q E s₂) E s₁) E s) :
    wpAny G.M A (eval (.Call (.Attribute o name apos) args [] pos) env) Q E s := by
  rw [arm_eval_Call, hbase]
  refine wpAny_bind (wpAny_mono h (fun ov s₁ h₁ => ?_) fun _ _ e => e)
  refine wpAny_bind (wpAny_standAt ?_)
  have hform : methodCallForm (args.length + ([] : List Keyword).length) (backTo pos (starEach args env)) (backToKw pos (keywordEach [] env)) = true := hfew
  have hpos : methodCallPos true o env apos pos = pure pos := by unfold methodCallPos; simp [hline]
  unfold methodCall
  rw [hform]
  refine wpAny_bind (wpAny_holding (wpAny_mono (h₁ _) (fun p s₂ h₂ => ?_) fun _ _ e => e))
  exact wpAny_bind (wpAny_of_eq hpos h₂)
theorem ocall_arm (K : G.Ok) (X : Cxt G fs A r) (hcf : CfOk G cf r) {o : Expr} {m : Str} {apos pos : Pos} {l : List Expr} (ho : EvOk G fs A cf o) (hl : AllOk G fs A cf l) {env : Env} {sc : Scope} {σ : Sg} (I : Inv G fs H S s) (V : EnvOk G H s.heap env sc σ)
    (hbase : attributeBase o m env (eval o env) = eval o env) (hs : noStar l = true) (c1 : (apos.endLine == pos.line) = true) (c3 : l.length < 20) :
    Wp G fs A (RR G) H S s (eval (.Call (.Attribute o m apos) l [] pos) env) (bnd (ev G.C cf o sc σ) fun a => bnd (clsM G.C a m) fun f => bnd (evAll G.C cf l sc σ) fun ds => calm (cf f (a :: ds))) := by
  intro hne
  refine call_own hbase ?_ c1 ((ho I V).then K hne fun v a H1 S1 s1 e1 q1 n1 x1 I1 r1 => ?_)
  · rw [Bool.and_eq_true, Bool.and_eq_true]
    refine ⟨⟨noStar_all pos env hs, rfl⟩, ?_⟩
    simp only [decide_eq_true_eq]
    show l.length + 0 + 0 < 30
    lia
  · intro pl
    rw [q1]
    refine ob14 (clsM_inv (bnd_inv n1)) fun p h1 h2 h3 h4 => ?_
    rw [bnd_at h4] at n1 ⊢
    refine ob23 (instOf_inv h1) fun n dn er1 hS hN => ?_; subst er1
    obtain ⟨hc, fn, hfn, hlook⟩ := methOk_inv h2
    refine ob31 (K.cls p.1 hc) fun Ca N mN F => ?_
    obtain ⟨f, g1, FA, ⟨of', f1, e2'⟩, y, g2⟩ := F.meth m fn hfn
    obtain ⟨nm, q, bs, sn, sub, col, dd, k0, k1, k2, k3, k5, hC⟩ := F.at'.obj
    refine ob23 (inst_at I1 F.mg r1 hS hN) fun x mA er1 hI hm => ?_; subst er1
    refine ob75 (id FA) fun of fnm fq params pm code doc e2 e3 e4 e5 e6 => ?_
    replace e2' : of.cls = .type "function" := by rw [e2] at f1; cases f1; exact e2'
    obtain ⟨hp, gg, dr, tk, os⟩ := s1
    refine method_of (I1.stays Ca _ hC) (F.at'.ns.keeps I1.stays) F.q1 F.q2 g1 (I1.stays f of e2) e2' g2 hI ((hm m).2 h3) ?_
    refine Calls.callWith_function (o := of) (args_ok K hl pos (.ref f) I1 (V.step x1) hs n1 fun vs ds H2 S2 s2 q2 n2 x2 I2 r2 => ⟨⟨I2.stays f of e2, e3⟩, ?_⟩)
    rw [q2]
    exact wpAny_mono (hcf X.cx I2 hlook FA (.cons (r1.step x2) r2) n2) (fun _ _ p => p.trans (x1.trans x2)) fun _ _ p => p
theorem callWith_own {pos : Pos} {args : List (Bool × Sem Value)} {C N : Addr} {mN : Str -> Option Value} {h₀ : Heap} {Q : Value -> Shared -> Prop} {E : Value -> Shared -> Prop} (X : PyProof.Rows.ClsAt h₀ C N mN)
    (hst : (args.any (fun x => x.fst) || ([] : List (Option Str × Sem Value)).any fun x => x.fst.isNone) = false)
    (h : wpAny G.M A (evalArgs (.ref C) true args []) (fun as s₁ => as.kw = [] /\ (∀ b o, h₀.get? b = some o -> s₁.heap.get? b = some o) /\ wpAny G.M A (call (.ref C) as.pos) Q E s₁) E s) :
    wpAny G.M A (callWith pos (.ref C) [] args []) Q E s := by
  unfold callWith
  refine wpAny_bind (wpAny_holding (wpAny_mono h (fun as s₁ h₁ => ?_) fun _ _ x => x))
  refine ob03 h₁ fun e hk hc => ?_; clear h₁
  obtain ⟨ps, kw⟩ := as
  subst e
  obtain ⟨hh, g, d, t, os⟩ := s₁
  obtain ⟨nm, q, bs, sn, sub, col, dd, k0, k1, k2, k3, k5, hC⟩ := (X.keeps hk).obj
  have f1 := tc_lookup
  have hT : (⟨hh, g, d, t, os⟩ : Shared).TypeIs (.ref C) "type" := mk12 _ hC rfl
  refine wpAny_bind (wpAny_standAt ?_)
  show wpAny _ _ (keeperOf (.ref C) >>= _) _ _ _
  unfold keeperOf specialOf
  repeat (any_goals (first | assumption | with_reducible refine wpAny_loadPart_at hC ?_ | with_reducible refine wpAny_load' hC ?_ | wp_step))
  rw [if_pos (by rfl), hst]
  show wpAny _ _ (call (.ref C) ps [] >>= fun r => do holding [r] point; pure r) _ _ _
  exact wpAny_bind (wpAny_mono hc (fun r s' hr => wpAny_bind (wpAny_holding (wpAny_point (wpAny_pure hr)))) fun _ _ x => x)
theorem isNoneD_inv {d : D} (h : isNoneD d = true) : d = .none := by
  unfold isNoneD at h
  split at h
  · rfl
  · cases h
theorem newInst (I : Inv G fs H S s) {c : Str} {C : Addr} (hc : G.mg c = some (.ref C)) :
    Ext [] H s.heap ⟨H.ρ ++ [s.heap.objs.size, s.heap.objs.size + 1], H.fr⟩ ((s.heap.push nsO).push (insO C s.heap.objs.size)) /\
    Inv G fs ⟨H.ρ ++ [s.heap.objs.size, s.heap.objs.size + 1], H.fr⟩ (S ++ [.ns [], .inst c S.length]) { s with heap := (s.heap.push nsO).push (insO C s.heap.objs.size) } := by
  have g1 : (s.heap.push nsO).get? s.heap.objs.size = some nsO := Heap.get?_push_size _ rfl
  have z1 : (s.heap.push nsO).objs.size = s.heap.objs.size + 1 := Heap.size_push ..
  have hns : ∀ h' : Heap, h'.get? s.heap.objs.size = some nsO -> h'.Ns1 s.heap.objs.size (fun _ => none) := fun h' e => Heap.Ns1.of_empty ⟨nsO, #[], 0, e, rfl, fun e he => absurd he (by simp), fun _ => rfl⟩
  refine ob02 (newStoreH (tk := s.toks) (a := s.heap.objs.size) (p := .ns []) I (fun b o e => Heap.get?_push_of_some nsO e) (Nat.le_refl _) ⟨_, g1⟩ fun _ _ => mk12 _ (hns _ g1) (fun x => ⟨fun d e => (by cases e), fun _ => rfl⟩)) fun x1 I1 => ?_
  have g2 : ((s.heap.push nsO).push (insO C s.heap.objs.size)).get? (s.heap.objs.size + 1) = some (insO C s.heap.objs.size) := by rw [<- z1]; exact Heap.get?_push_size _ rfl
  refine ob02 (newStoreH (tk := s.toks) (a := s.heap.objs.size + 1) (h' := (s.heap.push nsO).push (insO C s.heap.objs.size)) (p := .inst c S.length) I1 (fun b o e => Heap.get?_push_of_some (insO C s.heap.objs.size) e) (by show (s.heap.push nsO).objs.size <= _; rw [z1]; exact Nat.le_refl _) ⟨_, g2⟩ fun _ hp => mk37 C s.heap.objs.size _ hc (hp _ _ (by rw [<- I.len]; simp)) (Nat.ne_of_lt (Nat.lt_succ_self _)) g2 rfl rfl (fun cd q => by cases q)) fun x2 I2 => ?_
  have e1 : S ++ [SObj.ns [], SObj.inst c S.length] = S ++ [SObj.ns []] ++ [SObj.inst c S.length] := by simp
  have e2 : H.ρ ++ [s.heap.objs.size, s.heap.objs.size + 1] = H.ρ ++ [s.heap.objs.size] ++ [s.heap.objs.size + 1] := by simp
  rw [e1, e2]
  exact ⟨x1.trans x2, I2⟩
set_option tactic.hygienic true in
theorem newM_inv {C : Cfg} {x : Str} {ds : List D} (h : newM C cf x ds S ≠ .stuck) : methOk C x "__init__" = true /\ ∃ S', cf (mname x "__init__") (.loc (S.length + 1) :: ds) (S ++ [.ns [], .inst x S.length]) = .ok .none S' /\ newM C cf x ds S = .ok (.loc (S.length + 1)) S' := by
  unfold newM at h ⊢
  by_cases hc : methOk C x "__init__" = true
  · rw [if_pos hc] at h ⊢
    refine ⟨hc, ?_⟩
    split at h
    · rename_i d S' e
      by_cases hd : isNoneD d = true
      · obtain rfl := isNoneD_inv hd
        exact mk12 S' e (if_pos hd)
      · rw [if_neg hd] at h; exact absurd rfl h
    · exact absurd rfl h
  · rw [if_neg hc] at h; exact absurd rfl h
theorem ncall_arm (K : G.Ok) (X : Cxt G fs A r) (hcf : CfOk G cf r) {x : Str} {np pos : Pos} {l : List Expr} (hl : AllOk G fs A cf l) {env : Env} {sc : Scope} {σ : Sg} (I : Inv G fs H S s) (V : EnvOk G H s.heap env sc σ)
    (hg : isGlobal sc x = true) (hs : noStar l = true) (hc : G.C.clss.contains x = true) : Wp G fs A (RR G) H S s (eval (.Call (.Name x np) l [] pos) env) (bnd (evAll G.C cf l sc σ) fun ds => newM G.C cf x ds) := by
  intro hne
  refine ob31 (K.cls x hc) fun Ca N mN F => ?_
  refine wpAny_Call_NameR (fname_ok K I V hg F.mg (callWith_own F.at' (by rw [List.any_nil, Bool.or_false]; exact noStar_any pos env hs) (args_ok K hl pos (.ref Ca) I V hs hne fun vs ds H1 S1 s1 q1 n1 x1 I1 r1 => ⟨rfl, I1.stays, ?_⟩)))
  rw [q1]
  obtain ⟨hm, S', e, e'⟩ := newM_inv n1
  obtain ⟨_, fn, hfn, hlook⟩ := methOk_inv hm
  obtain ⟨f, g1, FA, ⟨of', f1, e2'⟩, y, g2⟩ := F.meth _ fn hfn
  obtain ⟨nm, q, bs, sn, sub, col, dd, k0, k1, k2, k3, k5, hC⟩ := F.at'.obj
  refine ob75 (id FA) fun of fnm fq params pm code doc e2 e3 e4 e5 e6 => ?_
  replace e2' : of.cls = .type "function" := by rw [e2] at f1; cases f1; exact e2'
  refine ob02 (newInst I1 F.mg) fun x2 I2 => ?_
  have hr : RdAll G.P ⟨H1.ρ ++ [s1.heap.objs.size, s1.heap.objs.size + 1], H1.fr⟩ ((s1.heap.push nsO).push (insO Ca s1.heap.objs.size)) (.ref (s1.heap.objs.size + 1) :: vs) (.loc (S1.length + 1) :: ds) :=
    .cons (.loc (by rw [<- I1.len]; simp)) (r1.step x2)
  obtain ⟨hp, gg, dr, tk, os⟩ := s1
  refine call_new (I1.stays Ca _ hC) (F.at'.ns.keeps I1.stays) g1 (I1.stays f of e2) e2' ?_
  have hne2 : cf (mname x "__init__") (.loc (S1.length + 1) :: ds) (S1 ++ [.ns [], .inst x S1.length]) ≠ .stuck := by rw [e]; exact fun h => by cases h
  refine wpAny_mono (hcf (under_call X) I2 hlook FA hr hne2) (fun v s' p => ?_) fun _ _ p => p
  refine ob34 p fun a S2 H2 p1 p2 p3 p4 => ?_; clear p
  rw [e] at p1; cases p1
  cases p4
  refine ⟨rfl, .loc (S1.length + 1), S', H2, e', x1.trans (x2.trans p2), p3, .loc ?_⟩
  have := (Rd.step (P := G.P) (v := .ref (hp.objs.size + 1)) (d := .loc (S1.length + 1)) p2 (.loc (by rw [<- I1.len]; simp)))
  cases this with | loc z => exact z
end
end Mine
end

section
namespace Mine
open PySem
section
variable {G : Glo} {fs : List Env} {A : Around} {cf : Str -> List D -> EM D} {r : Nat} {H : Hid} {S : Store} {s : Shared}
theorem base_eq {o : Expr} (h : notCall o = true) (m : Str) (env : Env) (w : Sem Value) : attributeBase o m env w = w := by
  cases o <;> first | rfl | cases h
theorem mcall_arm (K : G.Ok) (X : Cxt G fs A r) {o : Expr} {m : Str} {apos pos : Pos} {l : List Expr} (ho : EvOk G fs A cf o) (hl : AllOk G fs A cf l) {env : Env} {sc : Scope} {σ : Sg} (I : Inv G fs H S s) (V : EnvOk G H s.heap env sc σ)
    (hs : noStar l = true) (hc : (apos.endLine == pos.line && notCall o && decide (l.length < 20)) = true)
    {i : MImpl} (hi : G.C.meths.lookup m = some i) : Wp G fs A (RR G) H S s (eval (.Call (.Attribute o m apos) l [] pos) env) (bnd (ev G.C cf o sc σ) fun a => bnd (methK i a) fun _ => bnd (evAll G.C cf l sc σ) fun ds => i.run a ds) := by
  intro hne
  simp only [Bool.and_eq_true, decide_eq_true_eq] at hc
  obtain ⟨⟨c1, c2⟩, c3⟩ := hc
  refine wpAny_Call_method_late (base_eq c2 m env _) ?_ c1 rfl ((ho I V).then K hne fun v a H1 S1 s1 e1 q1 n1 x1 I1 r1 => ?_)
  · rw [Bool.and_eq_true, Bool.and_eq_true]
    refine ⟨⟨noStar_all pos env hs, rfl⟩, ?_⟩
    simp only [decide_eq_true_eq]
    show l.length + 0 + 0 < 30
    lia
  · rw [q1]
    have hm : i.ok S1 a = true := by
      by_cases h : i.ok S1 a = true
      · exact h
      · exact absurd (by unfold bnd methK; rw [if_neg h]) n1
    have q2 : bnd (methK i a) (fun _ => bnd (evAll G.C cf l sc σ) fun ds => i.run a ds) S1 = bnd (evAll G.C cf l sc σ) (fun ds => i.run a ds) S1 := by
      show bnd (methK i a) _ S1 = _
      unfold bnd methK; rw [if_pos hm]
    rw [q2] at n1 ⊢
    refine ob15 ((K.meths m i hi).find I1 r1 hm) fun T t1 t2 t3 t4 t5 => ?_
    refine mk26 T (i.id a) t1 t2 t3 t4 t5 (Calls.callWith_builtin (noStar_any pos env hs) (args_ok K hl pos _ I1 (V.step x1) hs n1 fun vs ds H2 S2 s2 q2 n2 x2 I2 r2 => ?_))
    rw [q2]
    exact wpAny_mono ((K.meths m i hi).run X I2 (r1.step x2) r2 n2) (fun _ _ p => p.trans (x1.trans x2)) fun _ _ p => p
theorem icall_arm (K : G.Ok) (X : Cxt G fs A r) {x : Str} {np pos : Pos} {l : List Expr} (hl : AllOk G fs A cf l) {env : Env} {sc : Scope} {σ : Sg} {i : BImpl} (I : Inv G fs H S s) (V : EnvOk G H s.heap env sc σ)
    (hg : isGlobal sc x = true) (hs : noStar l = true) (hi : G.C.bfs.lookup x = some i) : Wp G fs A (RR G) H S s (eval (.Call (.Name x np) l [] pos) env) (bnd (evAll G.C cf l sc σ) fun ds => i.run (G.C.own pos) ds) := by
  intro hne
  have P := K.bfs x i hi
  refine ob11 P.val fun id hid => ?_
  refine wpAny_Call_NameR (bname_ok K I V hg P.mem P.boot P.ne ?_)
  rw [hid]
  refine Calls.callWith_builtin (noStar_any pos env hs) (args_ok K hl pos _ I V hs hne fun vs ds H1 S1 s1 q1 n1 x1 I1 r1 => ?_)
  rw [q1]
  have := P.run (G.C.own pos) X I1 r1 n1
  rw [hid] at this
  exact wpAny_mono this (fun _ _ p => p.trans x1) fun _ _ p => p
theorem nameF (f : Expr) : (∃ x np, f = .Name x np) \/ (∃ o m p, f = .Attribute o m p) \/ ∀ (C : Cfg) (cf : CF) (l : List Expr) (pos : Pos) (sc : Scope) (σ : Sg) (S : Store), ev C cf (.Call f l [] pos) sc σ S = .stuck := by
  have no : ∀ (l : List Expr) (S : Store), (if noStar l then (stk : EM D) else stk) S = .stuck := fun l S => by split <;> rfl
  cases f with
  | Name x np => exact .inl (mk21 x np rfl)
  | Attribute o m p => exact .inr (.inl (mk31 o m p rfl))
  | _ => exact .inr (.inr fun _ _ l _ _ _ S => no l S)
theorem callC_ok (K : G.Ok) (X : Cxt G fs A r) (hcf : CfOk G cf r) {x : Str} {np pos : Pos} {l : List Expr} (hl : AllOk G fs A cf l) {env : Env} {sc : Scope} {σ : Sg} (I : Inv G fs H S s) (V : EnvOk G H s.heap env sc σ) (hg : isGlobal sc x = true) (hs : noStar l = true) :
    Wp G fs A (RR G) H S s (eval (.Call (.Name x np) l [] pos) env) (callC G.C cf x pos (evAll G.C cf l sc σ)) := by
  unfold callC
  split
  · exact fcall_arm K X hcf hl I V hg hs ‹_›
  · split
    · exact bcall_arm K X hl I V hg hs ‹_›
    · split
      · exact icall_arm K X hl I V hg hs ‹_›
      · exact wp_ite fun h => ncall_arm K X hcf hl I V hg hs h
theorem call_arm (K : G.Ok) (X : Cxt G fs A r) (hcf : CfOk G cf r) {f : Expr} {l : List Expr} {kws : List Keyword} {pos : Pos} (ho : ∀ o m p, f = .Attribute o m p -> EvOk G fs A cf o) (hl : AllOk G fs A cf l) :
    EvOk G fs A cf (.Call f l kws pos) := by
  intro H S s env sc σ I V
  cases kws with
  | cons k kws => exact fun h => absurd rfl h
  | nil =>
    rcases nameF f with ⟨x, np, rfl⟩ | ⟨o, m, apos, rfl⟩ | hf
    · exact wp_ite (c := noStar l = true) fun hs => wp_ite (c := isGlobal sc x = true) fun hg => callC_ok K X hcf hl I V hg hs
    · refine wp_ite (c := noStar l = true) fun hs => wp_ite (c := (apos.endLine == pos.line && notCall o && decide (l.length < 20)) = true) fun hc => ?_
      split
      · exact mcall_arm K X (ho o m apos rfl) hl I V hs hc ‹_›
      · have hc' := hc
        rw [Bool.and_eq_true, Bool.and_eq_true, decide_eq_true_eq] at hc'
        exact ocall_arm K X hcf (ho o m apos rfl) hl I V (base_eq hc'.1.2 m env _) hs hc'.1.1 hc'.2
    · exact Wp.stuck (hf G.C cf l pos sc σ S)
end
end Mine
end

section
namespace Mine
open PySem
section
variable {G : Glo} {fs : List Env} {A : Around} {H H1 H' : Hid} {S : Store} {s : Shared} {n : Nat} {env : Env} {sc : Scope} {σ : Sg} {h h₀ h1 h' : Heap} {ns X Y : List Addr}
theorem Ext.around' (k : ∀ b o, h₀.get? b = some o -> h.get? b = some o) (hs : h₀.objs.size <= h.objs.size) (hn : ∀ b ∈ ns, h₀.objs.size <= b) (hX : ∀ b ∈ X, b ∈ ns \/ b ∈ Y)
    (x : Ext X ⟨H.ρ, ns ++ H.fr⟩ h H1 h1) (kk : ∀ b o, b ∉ ns -> h1.get? b = some o -> h'.get? b = some o) (hz : h1.objs.size <= h'.objs.size) : Ext Y H h₀ ⟨H1.ρ, H.fr⟩ h' := by
  have y := x.around (Y := Y) k hs hn hX
  have off : ∀ b o, h₀.get? b = some o -> b ∉ ns := fun b o e q => absurd (Heap.lt_size e) (Nat.not_lt.mpr (hn b q))
  refine ⟨rfl, y.pre, fun b o h1 h2 e => kk b o (off b o e) (y.keep b o h1 h2 e), fun b o h2 h3 e => ?_, Nat.le_trans y.size hz⟩
  refine ob12 (y.keepF b o h2 h3 e) fun sl e1 e2 => ?_
  exact mk12 sl (kk b _ (off b o e) e1) e2
theorem Rd.into {P : Params} {v : Value} {d : D} (k : ∀ b o, h₀.get? b = some o -> h.get? b = some o) (hn : ∀ b ∈ ns, h₀.objs.size <= b) (x : Ext X ⟨H.ρ, ns ++ H.fr⟩ h H1 h1) (r : Rd P H h₀ v d) : Rd P H1 h1 v d :=
  Rd.ext (H := H) (H' := H1) (fun b o q1 q2 e => x.hk b o q1 (fun q => by
    rcases List.mem_append.mp q with q | q
    · exact absurd (Heap.lt_size e) (Nat.not_lt.mpr (hn b q))
    · exact q2 q) (k b o e)) x.hp r
theorem Ext.plain (x : Ext X H h H1 h1) {b : Addr} {o : Obj} (hb : b ∈ H.fr) (hX : b ∉ X) (hp : plainO o = true) (e : h.get? b = some o) : h1.get? b = some o := by
  refine ob12 (x.keepF b o hb hX e) fun sl e1 e2 => ?_
  rw [e2 hp] at e1
  exact e1
theorem Inv.noFrame (I : Inv G fs H S s) {a : Addr} (ha : a ∉ H.fr) : ∀ env ∈ fs, env.frame ≠ some a := by
  intro env he q
  obtain ⟨_, L, _, e1, e2, _⟩ := I.fa env he
  rw [q] at e1; cases e1
  exact ha e2
theorem Inv.frames (I : Inv G fs H S s) : ∀ env ∈ fs, ∀ L, env.frame = some L -> L ∈ H.fr := by
  intro env he L q
  obtain ⟨_, L', _, e1, e2, _⟩ := I.fa env he
  rw [q] at e1; cases e1
  exact e2
theorem Inv.baseNone (I : Inv G fs H S s) {b : Addr} (hb : s.heap.objs.size <= b) : G.B.heap.get? b = none := by
  cases hq : G.B.heap.get? b with
  | none => rfl
  | some o => exact absurd (Heap.lt_size (I.stays b o hq)) (Nat.not_lt.mpr hb)
theorem Inv.more {tk : Nat} (I : Inv G fs H S s) (k : ∀ b o, s.heap.get? b = some o -> h'.get? b = some o) (hn : ∀ b ∈ ns, s.heap.objs.size <= b) (hl : ∀ b ∈ ns, ∃ o, h'.get? b = some o) :
    Inv G fs ⟨H.ρ, ns ++ H.fr⟩ S { s with heap := h', toks := tk } where
  stays := fun b o e => k b o (I.stays b o e)
  newS := I.newS
  newF := fun b hb => by
    rcases List.mem_append.mp hb with q | q
    · exact I.baseNone (hn b q)
    · exact I.newF b q
  off := fun b hb q => by
    rcases List.mem_append.mp q with q | q
    · exact absurd (I.ltS hb) (Nat.not_lt.mpr (hn b q))
    · exact I.off b hb q
  liveF := fun b hb => by
    rcases List.mem_append.mp hb with q | q
    · exact hl b q
    · refine ob11 (I.liveF b q) fun o e => ?_; exact mk11 o (k b o e)
  nodup := I.nodup
  len := I.len
  objs := fun m o e => by
    refine ob12 (I.objs m o e) fun a e1 e2 => ?_
    exact mk12 a e1 (e2.ext (H := H) (fun b o h1 h2 e => ⟨h1, fun q => (List.mem_append.mp q).elim (fun q => absurd (Heap.lt_size e) (Nat.not_lt.mpr (hn b q))) h2, k b o e⟩) (fun _ _ e => e) fun ob q => k _ _ q)
  fa := I.fa.step (fun b q => List.mem_append_right _ q) fun b o _ e => mk12 o (k b o e) (fun q => q)
  gens := I.gens
  os := I.os
theorem Inv.leave {fr : List Addr} {tk : Nat} (I : Inv G fs H S s) (hf : ∀ b ∈ fr, b ∈ H.fr) (hfs : ∀ env ∈ fs, ∀ L, env.frame = some L -> L ∈ fr) (hk : ∀ b o, (b ∉ H.fr \/ b ∈ fr) -> s.heap.get? b = some o -> h'.get? b = some o) :
    Inv G fs ⟨H.ρ, fr⟩ S { s with heap := h', toks := tk } where
  stays := fun b o e => hk b o (.inl fun q => by rw [I.newF b q] at e; cases e) (I.stays b o e)
  newS := I.newS
  newF := fun b hb => I.newF b (hf b hb)
  off := fun b hb q => I.off b hb (hf b q)
  liveF := fun b hb => let ⟨o, e⟩ := I.liveF b (hf b hb); ⟨o, hk b o (.inr hb) e⟩
  nodup := I.nodup
  len := I.len
  objs := fun m o e => by
    refine ob12 (I.objs m o e) fun a e1 e2 => ?_
    exact mk12 a e1 (e2.ext (H := H) (fun b o h1 h2 e => ⟨h1, fun q => h2 (hf b q), hk b o (.inl h2) e⟩) (fun _ _ e => e) fun ob q => hk _ _ (.inl (I.off a (List.mem_of_getElem? e1))) q)
  fa := fun env he => by
    obtain ⟨a, L, o, b, c, d, e⟩ := I.fa env he
    exact ⟨a, L, o, b, hfs env he L b, hk L o (.inr (hfs env he L b)) d, e⟩
  gens := I.gens
  os := I.os
theorem lookup_pair {x : Str} {c : Addr} : ∀ {l : List (Str × Addr)}, l.lookup x = some c -> (x, c) ∈ l
  | [], h => by cases h
  | (y, d) :: l, h => by
    rw [List.lookup_cons] at h
    by_cases hy : (x == y) = true
    · rw [hy] at h
      obtain rfl := beq_iff_eq.mp hy
      cases h; exact List.mem_cons_self ..
    · have hy' : (x == y) = false := by simpa using hy
      rw [hy'] at h
      exact List.mem_cons_of_mem _ (lookup_pair h)
theorem EnvOk.more (V : EnvOk G H h env sc σ) (k : ∀ b o, h.get? b = some o -> h'.get? b = some o) (hn : ∀ b ∈ ns, h.objs.size <= b) : EnvOk G ⟨H.ρ, ns ++ H.fr⟩ h' env sc σ where
  scope := V.scope
  kind := V.kind
  glob := V.glob
  bi := V.bi
  inF := List.mem_append_right _ V.inF
  ns := by
    refine ob12 V.ns fun m e1 e2 => ?_
    refine mk12 m (e1.keeps k) (fun x i d q1 q2 => ?_)
    refine ob12 (e2 x i d q1 q2) fun v f1 f2 => ?_
    exact mk12 v f1 (f2.more k fun b hb => (List.mem_append.mp hb).elim (fun q => .inr (hn b q)) .inl)
  cells := fun x i q => by
    obtain ⟨c, e1, e2, e3, v, e4, e5⟩ := V.cells x i q
    refine ⟨c, e1, List.mem_append_right _ e2, e3, v, e4.keeps k, fun d q => ?_⟩
    refine ob12 (e5 d q) fun u f1 f2 => ?_
    exact mk12 u f1 (f2.more k fun b hb => (List.mem_append.mp hb).elim (fun q => .inr (hn b q)) .inl)
  cin := fun p hp => List.mem_append_right _ (V.cin p hp)
  inj := V.inj
noncomputable def EnvOff (env : Env) (sc : Scope) (X : List Addr) : Prop := env.locals ∉ X /\ ∀ y i c, slot sc.names y = some (i, .cell) -> env.cells.lookup y = some c -> c ∉ X
theorem EnvOk.stepX (V : EnvOk G H h env sc σ) (e : Ext X H h H' h') (o : EnvOff env sc X) : EnvOk G H' h' env sc σ where
  scope := V.scope
  kind := V.kind
  glob := V.glob
  bi := V.bi
  inF := by rw [e.fr]; exact V.inF
  ns := by
    refine ob12 V.ns fun m n r => ?_
    refine mk12 m (Ns.upto n fun o' q => (e.keepF _ o' V.inF o.1 q).imp fun _ r => r.1) (fun y i d q1 q2 => ?_)
    refine ob12 (r y i d q1 q2) fun v q r' => ?_
    exact mk12 v q (r'.step e)
  cells := fun y i q => by
    obtain ⟨c, e1, e2, e3, v, e4, e5⟩ := V.cells y i q
    refine ⟨c, e1, by rw [e.fr]; exact e2, e3, v, IsCell.upto e4 fun o' q' => (e.keepF _ o' e2 (o.2 y i c q e1) q').imp fun _ r => r.1, fun d q => ?_⟩
    refine ob12 (e5 d q) fun u q1 q2 => ?_
    exact mk12 u q1 (q2.step e)
  cin := fun p hp => by rw [e.fr]; exact V.cin p hp
  inj := V.inj
theorem EnvOk.less {fr : List Addr} (V : EnvOk G H h env sc σ) (hf : ∀ b ∈ fr, b ∈ H.fr) (hk : ∀ b o, (b ∉ H.fr \/ b ∈ fr) -> h.get? b = some o -> h'.get? b = some o) (hl : env.locals ∈ fr) (hc : ∀ p ∈ env.cells, p.2 ∈ fr) : EnvOk G ⟨H.ρ, fr⟩ h' env sc σ where
  scope := V.scope
  kind := V.kind
  glob := V.glob
  bi := V.bi
  inF := hl
  ns := by
    refine ob12 V.ns fun m n r => ?_
    refine mk12 m (Ns.upto n fun o' q => ⟨o'.slots, hk _ _ (.inr hl) q⟩) (fun y i d q1 q2 => ?_)
    refine ob12 (r y i d q1 q2) fun v q r' => ?_
    exact mk12 v q (Rd.ext (H := H) (H' := ⟨H.ρ, fr⟩) (fun b o h1 h2 e => ⟨h1, fun q => h2 (hf b q), hk b o (.inl h2) e⟩) (fun _ _ e => e) r')
  cells := fun y i q => by
    obtain ⟨c, e1, e2, e3, v, e4, e5⟩ := V.cells y i q
    have hcf := hc _ (lookup_pair e1)
    refine ⟨c, e1, hcf, e3, v, IsCell.upto e4 fun o' q => ⟨o'.slots, hk _ _ (.inr hcf) q⟩, fun d q => ?_⟩
    refine ob12 (e5 d q) fun u q1 q2 => ?_
    exact mk12 u q1 (Rd.ext (H := H) (H' := ⟨H.ρ, fr⟩) (fun b o h1 h2 e => ⟨h1, fun q => h2 (hf b q), hk b o (.inl h2) e⟩) (fun _ _ e => e) q2)
  cin := hc
  inj := V.inj
theorem EnvOk.lt (V : EnvOk G H h env sc σ) : env.locals < h.objs.size := let ⟨_, n, _⟩ := V.ns; n.lt
theorem RdAll.exts {P : Params} {vs : List Value} {ds : List D} (hf : ∀ b ∈ H'.fr, b ∈ H.fr) (hρ : ∃ t, H'.ρ = H.ρ ++ t /\ ∀ b ∈ t, b ∈ H.fr) (hk : ∀ b o, b ∉ H.fr -> h.get? b = some o -> h'.get? b = some o) (r : RdAll P H h vs ds) : RdAll P H' h' vs ds := by
  refine ob12 hρ fun t e ht => ?_; clear hρ
  refine RdAll.ext (H := H) (H' := H') (fun b o h1 h2 q => ⟨?_, fun z => h2 (hf b z), hk b o h2 q⟩) (fun n a q => prefix_get e q) r
  rw [e]; intro z
  rcases List.mem_append.mp z with z | z
  · exact h1 z
  · exact h2 (ht b z)
theorem adopt {fr : List Addr} {tk : Nat} {a : Addr} {vs : Array Value} {c : Nat} {ds : List D} (C : Cfg) (pos : Pos) (I : Inv G fs H S s) (ha : a ∈ H.fr) (haf : a ∉ fr) (hg : s.heap.get? a = some (lstO vs c)) (hz : vs.size <= sizeLine) (r : RdAll G.P H s.heap vs.toList ds)
    (hf : ∀ b ∈ fr, b ∈ H.fr) (hfs : ∀ env ∈ fs, ∀ L, env.frame = some L -> L ∈ fr) (hk : ∀ b o, (b ∉ H.fr \/ b ∈ a :: fr) -> s.heap.get? b = some o -> h'.get? b = some o) :
    ∃ d S2 t, mkList C pos ds S = .ok d S2 /\ (∀ b ∈ t, b = a) /\ Inv G fs ⟨H.ρ ++ t, fr⟩ S2 { s with heap := h', toks := tk } /\ Rd G.P ⟨H.ρ ++ t, fr⟩ h' (.ref a) d := by
  have hk' : ∀ b o, (b ∉ H.fr \/ b ∈ fr) -> s.heap.get? b = some o -> h'.get? b = some o := fun b o q e => hk b o (q.imp_right (List.mem_cons_of_mem _)) e
  have hga := hk a _ (.inr (List.mem_cons_self ..)) hg
  have aS : a ∉ H.ρ := fun q => I.off a q ha
  unfold mkList
  by_cases ho : C.own pos = true
  · rw [if_pos ho]
    have rdx : ∀ {vs : List Value} {ds : List D}, RdAll G.P H s.heap vs ds -> RdAll G.P ⟨H.ρ ++ [a], fr⟩ h' vs ds := fun q => q.exts hf ⟨[a], rfl, by simpa using ha⟩ fun b o z e => hk' b o (.inl z) e
    refine mk34 (.loc S.length) (S ++ [.list ds]) [a] rfl (by simp) ?_ (.loc ?_)
    · refine ⟨fun b o e => hk' b o (.inl fun q => by rw [I.newF b q] at e; cases e) (I.stays b o e), fun b hb => ?_, fun b hb => I.newF b (hf b hb), fun b hb q => ?_, fun b hb => ?_, ?_, by simp [I.len], fun m o e => ?_, fun env he => ?_, I.gens, I.os⟩
      · rcases List.mem_append.mp hb with q | q
        · exact I.newS b q
        · simp only [List.mem_singleton] at q; subst q; exact I.newF b ha
      · rcases List.mem_append.mp hb with z | z
        · exact I.off b z (hf b q)
        · simp only [List.mem_singleton] at z; subst z; exact haf q
      · refine ob11 (I.liveF b (hf b hb)) fun o e => ?_; exact mk11 o (hk' b o (.inr hb) e)
      · rw [List.nodup_append]
        refine ⟨I.nodup, by simp, fun b hb c hc => ?_⟩
        simp only [List.mem_singleton] at hc
        rintro rfl
        exact aS (hc ▸ hb)
      · by_cases hm : m < S.length
        · rw [List.getElem?_append_left hm] at e
          refine ob12 (I.objs m o e) fun b e1 e2 => ?_
          refine mk12 b (prefix_get rfl e1) (e2.ext (H := H) (fun b o h1 h2 e => ⟨fun z => (List.mem_append.mp z).elim h1 fun z => h2 (by simp only [List.mem_singleton] at z; rw [z]; exact ha), fun z => h2 (hf b z), hk' b o (.inl h2) e⟩) (fun n a q => prefix_get rfl q) fun ob q => hk' _ _ (.inl (I.off b (List.mem_of_getElem? e1))) q)
        · have hm' : m = S.length := by
            have := (List.getElem?_eq_some_iff.mp e).1
            simp at this; lia
          subst hm'
          simp at e
          subst e
          exact ⟨a, by rw [<- I.len]; simp, vs, c, hga, hz, rdx r⟩
      · obtain ⟨q, L, o, b, c, d, e⟩ := I.fa env he
        exact ⟨q, L, o, b, hfs env he L b, hk' L o (.inr (hfs env he L b)) d, e⟩
    · rw [<- I.len]; simp
  · rw [if_neg ho]
    refine mk34 (.list ds) S [] rfl (by simp) ?_ ?_
    · rw [List.append_nil]; exact I.leave hf hfs hk'
    · refine .list (by simpa using aS) haf hga hz (r.exts hf ⟨[], rfl, by simp⟩ fun b o z e => hk' b o (.inl z) e)
end
end Mine
end

section
namespace Mine
open PySem
noncomputable def clOf (cells : List (Str × Addr)) : List (Str × NameKind) -> List (Str × Addr) -> List (Str × Addr)
  | [], acc => acc
  | (x, k) :: r, acc => if k == .free then (match cells.lookup x with
    | some c => clOf cells r ((x, c) :: acc)
    | none => clOf cells r acc) else clOf cells r acc
set_option tactic.hygienic true in
theorem clOf_ok {cells : List (Str × Addr)} : ∀ {ns : List (Str × NameKind)} {acc : List (Str × Addr)}, (∀ p ∈ acc, cells.lookup p.1 = some p.2) -> ∀ p ∈ clOf cells ns acc, cells.lookup p.1 = some p.2
  | [], _, h, p, hp => h p hp
  | (x, k) :: r, acc, h, p, hp => by
    unfold clOf at hp
    split at hp
    · split at hp
      · rename_i c hc
        refine clOf_ok (fun q hq => ?_) p hp
        rcases List.mem_cons.mp hq with rfl | hq
        · exact hc
        · exact h q hq
      · exact clOf_ok h p hp
    · exact clOf_ok h p hp
theorem clOf_acc {cells : List (Str × Addr)} : ∀ {ns : List (Str × NameKind)} {acc : List (Str × Addr)} {p : Str × Addr}, p ∈ acc -> p ∈ clOf cells ns acc
  | [], _, _, h => h
  | (x, k) :: r, acc, p, h => by
    unfold clOf
    split
    · split
      · exact clOf_acc (List.mem_cons_of_mem _ h)
      · exact clOf_acc h
    · exact clOf_acc h
theorem clOf_has {cells : List (Str × Addr)} : ∀ {ns : List (Str × NameKind)} {acc : List (Str × Addr)} {x : Str} {c : Addr}, (x, NameKind.free) ∈ ns -> cells.lookup x = some c -> (x, c) ∈ clOf cells ns acc
  | [], _, _, _, h, _ => by cases h
  | (y, k) :: r, acc, x, c, h, hc => by
    unfold clOf
    rcases List.mem_cons.mp h with e | h
    · cases e
      rw [if_pos (by decide), hc]
      exact clOf_acc (List.mem_cons_self ..)
    · split
      · split
        · exact clOf_has h hc
        · exact clOf_has h hc
      · exact clOf_has h hc
theorem mem_lookup {x : Str} {c : Addr} : ∀ {l : List (Str × Addr)}, (x, c) ∈ l -> ∃ c', l.lookup x = some c' /\ (x, c') ∈ l
  | [], h => by cases h
  | (y, d) :: l, h => by
    rw [List.lookup_cons]
    by_cases hy : (x == y) = true
    · rw [hy]
      obtain rfl := beq_iff_eq.mp hy
      exact mk12 d rfl (List.mem_cons_self ..)
    · have hy' : (x == y) = false := by simpa using hy
      rw [hy']
      rcases List.mem_cons.mp h with e | h
      · cases e; simp at hy
      · refine ob12 (mem_lookup h) fun c' e1 e2 => ?_
        exact mk12 c' e1 (List.mem_cons_of_mem _ e2)
theorem lookup_in {x : Str} {c : Addr} : ∀ {l : List (Str × Addr)}, l.lookup x = some c -> (x, c) ∈ l
  | [], h => by cases h
  | (y, d) :: l, h => by
    rw [List.lookup_cons] at h
    by_cases hy : (x == y) = true
    · rw [hy] at h
      obtain rfl := beq_iff_eq.mp hy
      cases h; exact List.mem_cons_self ..
    · have hy' : (x == y) = false := by simpa using hy
      rw [hy'] at h
      exact List.mem_cons_of_mem _ (lookup_in h)
theorem clOf_lookup {cells : List (Str × Addr)} {ns : List (Str × NameKind)} {x : Str} {c : Addr} (h : (x, NameKind.free) ∈ ns) (hc : cells.lookup x = some c) : (clOf cells ns []).lookup x = some c := by
  refine ob12 (mem_lookup (clOf_has (acc := []) h hc)) fun c' e1 e2 => ?_
  have := clOf_ok (acc := []) (by simp) _ e2
  rw [hc] at this; cases this
  exact e1
theorem clOf_up {cells : List (Str × Addr)} {ns : List (Str × NameKind)} {x : Str} {c : Addr} (h : (clOf cells ns []).lookup x = some c) : cells.lookup x = some c :=
  clOf_ok (acc := []) (by simp) _ (lookup_in h)
theorem closure_ok {scope : Scope} {env : Env} (h : ∀ p ∈ scope.names, p.2 = .free -> ∃ c, env.cells.lookup p.1 = some c) : closureFor scope env = pure (clOf env.cells scope.names []) := by
  simp only [closureFor]
  generalize ([] : List (Str × Addr)) = acc
  generalize scope.names = ns at h
  induction ns generalizing acc with
  | nil => rfl
  | cons p r ih =>
    obtain ⟨x, k⟩ := p
    have hr := fun acc => ih acc (fun q hq => h q (List.mem_cons_of_mem _ hq))
    rw [List.forIn_cons]
    unfold clOf
    by_cases hk : (k == NameKind.free) = true
    · refine ob11 (h (x, k) (List.mem_cons_self ..) (by simpa using hk)) fun c hc => ?_
      simp only [hk, if_true]
      unfold cellOf
      rw [hc]
      exact hr ((x, c) :: acc)
    · simp only [hk, if_false]
      exact hr acc
section
variable {G : Glo} {fs : List Env} {A : Around} {H : Hid} {S : Store} {s : Shared} {env : Env} {sc scope : Scope} {σ : Sg} {h : Heap}
set_option tactic.hygienic true in
theorem slot_mem : ∀ {ns : List (Str × NameKind)} {x : Str} {i : Nat} {k : NameKind}, slot ns x = some (i, k) -> (x, k) ∈ ns
  | [], _, _, _, h => by cases h
  | (y, k') :: r, x, i, k, h => by
    unfold slot at h
    split at h
    · rename_i q; cases h; rw [beq_iff_eq.mp q]; exact List.mem_cons_self ..
    · split at h
      · rename_i j k'' q2; cases h; exact List.mem_cons_of_mem _ (slot_mem q2)
      · cases h
set_option tactic.hygienic true in
theorem slot_map {f : Str × NameKind -> Str × NameKind} (hf : ∀ p, (f p).1 = p.1) : ∀ {ns : List (Str × NameKind)} {x : Str} {i : Nat} {k : NameKind}, slot (ns.map f) x = some (i, k) -> ∃ k', slot ns x = some (i, k') /\ k = (f (x, k')).2
  | [], _, _, _, h => by cases h
  | (y, k') :: r, x, i, k, h => by
    rw [List.map_cons] at h
    have hy : f (y, k') = (y, (f (y, k')).2) := Prod.ext (hf (y, k')) rfl
    rw [hy] at h
    unfold slot at h ⊢
    split at h
    · rename_i q; cases h
      rw [if_pos q]
      obtain rfl := beq_iff_eq.mp q
      exact mk12 k' rfl rfl
    · rename_i q
      rw [if_neg q]
      split at h
      · rename_i j k'' q2; cases h
        refine ob12 (slot_map hf q2) fun k3 e1 e2 => ?_
        exact mk12 k3 (by rw [e1]) e2
      · cases h
set_option tactic.hygienic true in
theorem compSg_get {sc : Scope} {σ : Sg} : ∀ {ns : List (Str × NameKind)} {x : Str} {i : Nat} {k : NameKind}, slot ns x = some (i, k) -> (compSg sc σ ns)[i]? = some (match k with
    | .free => (match slot sc.names x with
      | some (i, .cell) => (σ[i]?).join
      | _ => none)
    | _ => none)
  | [], _, _, _, h => by cases h
  | (y, k') :: r, x, i, k, h => by
    unfold slot at h
    unfold compSg
    split at h
    · rename_i q; cases h
      obtain rfl := beq_iff_eq.mp q
      rfl
    · split at h
      · rename_i j k'' q2; cases h
        rw [List.getElem?_cons_succ]
        exact compSg_get q2
      · cases h
set_option tactic.hygienic true in
theorem compOk_inv (h : compOk sc scope = true) : scope.kind = .function /\ (∀ p ∈ scope.names, p.2 ≠ .cell) /\ (∀ p ∈ scope.names, p.2 = .local -> scope.names.lookup p.1 = some .local) /\ (∀ p ∈ scope.names, p.2 = .free -> ∃ i, slot sc.names p.1 = some (i, .cell)) := by
  unfold compOk at h
  rw [Bool.and_eq_true] at h
  refine ob02 h fun h1 h2 => ?_; clear h
  rw [List.all_eq_true] at h2
  refine ⟨by simpa using h1, fun p hp => ?_, fun p hp q => ?_, fun p hp q => ?_⟩
  · have := h2 p hp
    simp only [Bool.and_eq_true] at this
    simpa using this.1.1
  · have := h2 p hp
    simp only [Bool.and_eq_true, Bool.or_eq_true] at this
    rcases this.1.2 with z | z
    · simp [q] at z
    · simpa using z
  · have := h2 p hp
    simp only [Bool.and_eq_true, Bool.or_eq_true] at this
    rcases this.2 with z | z
    · simp [q] at z
    · split at z
      · rename_i i hs; exact mk11 i hs
      · cases z
theorem relabel_eq (V : EnvOk G H h env sc σ) : relabel scope env = compSc sc scope := by
  unfold relabel compSc
  have := V.scope
  subst this
  rfl
set_option tactic.hygienic true in
theorem slot_map' {f : Str × NameKind -> Str × NameKind} (hf : ∀ p, (f p).1 = p.1) : ∀ {ns : List (Str × NameKind)} {x : Str} {i : Nat} {k : NameKind}, slot ns x = some (i, k) -> slot (ns.map f) x = some (i, (f (x, k)).2)
  | [], _, _, _, h => by cases h
  | (y, k') :: r, x, i, k, h => by
    rw [List.map_cons]
    have hy : f (y, k') = (y, (f (y, k')).2) := Prod.ext (hf (y, k')) rfl
    rw [hy]
    unfold slot at h ⊢
    split at h
    · rename_i q; cases h
      rw [if_pos q]
      obtain rfl := beq_iff_eq.mp q
      rfl
    · rename_i q
      rw [if_neg q]
      split at h
      · rename_i j k'' q2; cases h
        rw [slot_map' hf q2]
      · cases h
theorem comp_local {x : Str} {i : Nat} (hx : slot scope.names x = some (i, .local)) : slot (compSc sc scope).names x = some (i, .local) := by
  have hf : ∀ p : Str × NameKind, ((fun (q : Str × NameKind) => (match q with
    | (n, k) => if (k == NameKind.free && sc.kind == ScopeKind.function && sc.names.lookup n == some NameKind.cell) = true then (n, NameKind.cell) else (n, k))) p).1 = p.1 := by
    rintro ⟨n, k⟩; dsimp only; split <;> rfl
  exact slot_map' hf hx
set_option tactic.hygienic true in
theorem comp_cell (hok : compOk sc scope = true) {x : Str} {i : Nat} (q : slot (compSc sc scope).names x = some (i, .cell)) : ∃ j, slot sc.names x = some (j, .cell) := by
  refine ob04 (compOk_inv hok) fun k1 k2 k3 k4 => ?_
  have hf : ∀ p : Str × NameKind, ((fun (q : Str × NameKind) => (match q with
    | (n, k) => if (k == NameKind.free && sc.kind == ScopeKind.function && sc.names.lookup n == some NameKind.cell) = true then (n, NameKind.cell) else (n, k))) p).1 = p.1 := by
    rintro ⟨n, k⟩; dsimp only; split <;> rfl
  refine ob12 (slot_map hf q) fun k' e1 e2 => ?_
  dsimp only at e2
  split at e2
  · rename_i z
    simp only [Bool.and_eq_true, beq_iff_eq] at z
    obtain ⟨⟨rfl, _⟩, _⟩ := z
    exact k4 _ (slot_mem e1) rfl
  · exact absurd e2.symm (k2 _ (slot_mem e1))
set_option tactic.hygienic true in
theorem comp_env (V : EnvOk G H h env sc σ) (hok : compOk sc scope = true) {C : Addr} (hC : C ∈ H.fr) (hCc : ∀ y i c, slot sc.names y = some (i, .cell) -> env.cells.lookup y = some c -> c ≠ C) {m : Str -> Option Value} (hn : h.Ns C m) :
    EnvOk G H h (compEnvC scope (clOf env.cells scope.names []) C env) (compSc sc scope) (compSg sc σ scope.names) := by
  refine ob04 (compOk_inv hok) fun k1 k2 k3 k4 => ?_
  have hf : ∀ p : Str × NameKind, ((fun (q : Str × NameKind) => (match q with
    | (n, k) => if (k == NameKind.free && sc.kind == ScopeKind.function && sc.names.lookup n == some NameKind.cell) = true then (n, NameKind.cell) else (n, k))) p).1 = p.1 := by
    rintro ⟨n, k⟩; dsimp only; split <;> rfl
  have cellInv : ∀ {x : Str} {i : Nat}, slot (compSc sc scope).names x = some (i, .cell) -> slot scope.names x = some (i, .free) /\ ∃ j, slot sc.names x = some (j, .cell) := by
    intro x i q
    refine ob12 (slot_map hf q) fun k' e1 e2 => ?_
    dsimp only at e2
    split at e2
    · rename_i z
      simp only [Bool.and_eq_true, beq_iff_eq] at z
      obtain ⟨⟨rfl, _⟩, _⟩ := z
      exact ⟨e1, k4 _ (slot_mem e1) rfl⟩
    · exact absurd e2.symm (k2 _ (slot_mem e1))
  refine ⟨relabel_eq V, k1, V.glob, V.bi, hC, ⟨m, hn, fun x i d q1 q2 => ?_⟩, fun x i q => ?_, fun p hp => V.cin _ (lookup_in (clOf_ok (acc := []) (by simp) p hp)), fun x y i j c q1 q2 e1 e2 => ?_⟩
  · refine ob12 (slot_map hf q1) fun k' e1 e2 => ?_
    have hk : k' = .local := by
      dsimp only at e2
      split at e2
      · cases e2
      · exact e2.symm
    subst hk
    rw [compSg_get e1] at q2
    cases q2
  · obtain ⟨f1, j, f2⟩ := cellInv q
    obtain ⟨c, e1, e2, e3, v?, e4, e5⟩ := V.cells x j f2
    refine ⟨c, clOf_lookup (slot_mem f1) e1, e2, hCc x j c f2 e1, v?, e4, fun d q2 => ?_⟩
    rw [compSg_get f1] at q2
    dsimp only at q2
    rw [f2] at q2
    refine e5 d ?_
    dsimp only at q2
    cases hj : σ[j]? with
    | none => rw [hj] at q2; cases q2
    | some o => rw [hj] at q2; cases o with
      | none => cases q2
      | some d' => cases q2; rfl
  · obtain ⟨_, i', f1⟩ := cellInv q1
    obtain ⟨_, j', f2⟩ := cellInv q2
    exact V.inj x y i' j' c f1 f2 (clOf_up e1) (clOf_up e2)
theorem put_local (I : Inv G fs H S s) (V : EnvOk G H s.heap env sc σ) {x : Str} {i : Nat} {v : Value} {d : D} (r : Rd G.P H s.heap v d) (hs : slot sc.names x = some (i, .local)) {Q : Unit -> Shared -> Prop} {E : Value -> Shared -> Prop}
    (hQ : ∀ h' tk, Ext [env.locals] H s.heap H h' -> Inv G fs H S { s with heap := h', toks := tk } -> EnvOk G H h' env sc (put σ i d) -> Q () { s with heap := h', toks := tk }) : wpAny G.M A (storeName env x v) Q E s := by
  have hk : env.scope.kind = .function := by rw [V.scope]; exact V.kind
  refine ob12 V.ns fun m hn hm => ?_
  refine wpAny_storeName_local (V.kindOf hs) hn (fun h' hn' hs' => ?_) (by rw [hk]; rfl)
  obtain ⟨J, x'⟩ := I.setF (tk := s.toks + 1) V.inF (fun b o hb e => (hs'.2 b hb).trans e) (Nat.le_of_eq hs'.1.symm) (by
    refine ob33 hn' fun o es ep q1 q2 _ => ?_; clear hn'
    exact mk12 o q1 (.inl (by unfold plainO; rw [q2])))
  refine hQ h' _ x' J ⟨V.scope, V.kind, V.glob, V.bi, V.inF, ⟨_, hn', fun y j e q1 q2 => ?_⟩, fun y j q => ?_, V.cin, V.inj⟩
  · rcases put_get q2 with ⟨rfl, rfl⟩ | ⟨hj, q2⟩
    · obtain rfl := slot_inj hs q1
      exact mk12 v (by simp) (r.step x')
    · have hy : y ≠ x := fun q => hj (by rw [q, hs] at q1; cases q1; rfl)
      refine ob12 (hm y j e q1 q2) fun u q3 q4 => ?_
      exact mk12 u (by simp [hy, q3]) (q4.step x')
  · obtain ⟨c, e1, e2, e3, v?, e4, e5⟩ := V.cells y j q
    refine ⟨c, e1, e2, e3, v?, e4.sameBut hs' e3, fun e q2 => ?_⟩
    rcases put_get q2 with ⟨rfl, rfl⟩ | ⟨hj, q2⟩
    · obtain rfl := slot_inj hs q
      rw [hs] at q; cases q
    · refine ob12 (e5 e q2) fun u q3 q4 => ?_
      exact mk12 u q3 (q4.step x')
end
end Mine
end

section
namespace Mine
open PySem
noncomputable def turnM (C : Cfg) (cf : CF) (ifs : List Expr) (elt : Expr) (sc : Scope) (σ : Sg) (i : Nat) (d : D) : EM (Option D) :=
  bnd (evTAll C cf .And ifs sc (put σ i d)) fun ok => if ok then bnd (ev C cf elt sc (put σ i d)) fun y => ret (some y) else ret none
theorem compL_cons {turn : D -> EM (Option D)} {d : D} {r : List D} : compL turn (d :: r) = bnd (turn d) fun x => bnd (compL turn r) fun ys => ret (match x with
    | some y => y :: ys
    | none => ys) := rfl
section
variable {G : Glo} {fs : List Env} {A : Around} {cf : Str -> List D -> EM D} {H : Hid} {S : Store} {s : Shared} {env : Env} {sc scope : Scope} {σ : Sg}
theorem app_ok {a : Addr} {vs : Array Value} {m : Nat} {v : Value} (e : s.heap.get? a = some (lstO vs m)) (hz : vs.size <= sizeLine) {Q : Value -> Shared -> Prop} {E : Value -> Shared -> Prop}
    (hQ : ∀ h' m', Heap.SameBut a s.heap h' -> h'.get? a = some (lstO (vs.push v) m') -> Q .none { s with heap := h', toks := s.toks }) : wpAny G.M A (call (.builtin "list.append") [.ref a, v]) Q E s :=
  call_meets F.slot_list_append ⟨_, e, rfl⟩ F.entry_list_append (F.args_list_append_2 _ _) (PySem.list_append a vs m v hz) ⟨e, hQ _ _ (Heap.SameBut.update s.heap a _) (IsL.update e fun xs => xs.push v)⟩
structure Mid (G : Glo) (fs : List Env) (H : Hid) (h₁ : Heap) (cenv : Env) (sc' : Scope) (σ' : Sg) (turn : D -> EM (Option D)) (ds : List D) (S₀ : Store) (I D : Addr) (St : Nat -> Heap -> Prop) (n : Nat) (s : Shared)
    (k : Nat) (H1 : Hid) (S1 : Store) (done : List Mine.D) (vs : Array Value) (c : Nat) : Prop where
  cnt : n + k = ds.length
  x : Ext [I, D, cenv.locals] ⟨H.ρ, [I, D, cenv.locals] ++ H.fr⟩ h₁ H1 s.heap
  inv : Inv G fs H1 S1 s
  env : EnvOk G H1 s.heap cenv sc' σ'
  st : St k s.heap
  lst : s.heap.get? D = some (lstO vs c)
  rd : RdAll G.P H1 s.heap vs.toList done
  few : done.length <= k
  ne : compL turn (ds.drop k) S1 ≠ .stuck
  rest : ∀ ys S', compL turn (ds.drop k) S1 = .ok ys S' -> compL turn ds S₀ = .ok (done ++ ys) S'
theorem mem3 {α : Type} {b x y z : α} (h : b ∈ [x, y, z]) : b = x \/ b = y \/ b = z := by simpa using h
theorem comp_core (K : G.Ok) (hh : A.handled = none) {elt iter : Expr} {x : Str} {px pos : Pos} {ifs : List Expr} {i : Nat} (ht : TestsOk G fs A cf ifs) (he : EvOk G fs A cf elt) (I₀ : Inv G fs H S s) (V : EnvOk G H s.heap env sc σ)
    (hok : compOk sc scope = true) (hx : slot scope.names x = some (i, .local)) {ds : List D} {fp : List Addr} {P : Nat -> Value -> Prop} {St : Nat -> Heap -> Prop} {oI : Obj} (T : Itr G H s.heap (s.heap.push oI) s.heap.objs.size ds fp P St)
    (hne : compL (turnM G.C cf ifs elt (compSc sc scope) (compSg sc σ scope.names) i) ds S ≠ .stuck) {RRp : Value -> Addr -> Result -> Shared -> Prop} {E : Value -> Shared -> Prop}
    (hR : ∀ D C s' done S1 d S2 H2 m, s.heap.objs.size <= C -> compL (turnM G.C cf ifs elt (compSc sc scope) (compSg sc σ scope.names) i) ds S = .ok done S1 -> mkList G.C pos done S1 = .ok d S2 -> Ext [C] ⟨H.ρ, [C] ++ H.fr⟩ s.heap H2 s'.heap -> Inv G fs H2 S2 s' ->
      Rd G.P H2 s'.heap (.ref D) d -> s'.heap.Ns C m -> RRp (.ref D) C (.ok .next) s') :
    wpAny G.M A (newList []) (fun acc s₃ => wpAny G.M A (newFunctionEnv scope env.globals (clOf env.cells scope.names []) [] env.qual none .none (some env)) (fun cenv s₄ =>
      codeAny G.M A (.compStart (.ListComp elt [⟨.Name x px, iter, ifs, 0⟩] scope pos) 0 (.ref s.heap.objs.size) acc { cenv with scope := relabel scope env }) (RRp acc cenv.locals) s₄) E s₃) E { s with heap := s.heap.push oI } := by
  refine ob04 (compOk_inv hok) fun k1 k2 k3 k4 => ?_
  refine wpAny_newObj_type (wpAny_newFunctionEnv k2 (by intro y hy; simp at hy) (fun h₁ hns₁ hsb₁ => ?_) k1)
  dsimp only at hns₁ hsb₁ ⊢
  generalize hH2 : (s.heap.push oI).push { cls := .type "list", dict := none, data := .seq ([] : List Value).toArray } = H2 at hns₁ hsb₁ ⊢
  have hC : H2.objs.size = s.heap.objs.size + 2 := by rw [<- hH2, Heap.size_push, Heap.size_push]
  have hD : (s.heap.push oI).objs.size = s.heap.objs.size + 1 := by rw [Heap.size_push]
  have low : ∀ {b : Addr} {k : Nat}, b < s.heap.objs.size -> b ≠ s.heap.objs.size + k := fun hb q => absurd hb (by rw [q]; exact Nat.not_lt.mpr (Nat.le_add_right _ _))
  have nID : s.heap.objs.size ≠ (s.heap.push oI).objs.size := by rw [hD]; exact Nat.ne_of_lt (Nat.lt_succ_self _)
  have nIC : s.heap.objs.size ≠ H2.objs.size := by rw [hC]; exact Nat.ne_of_lt (Nat.lt_add_of_pos_right (by decide))
  have nDC : (s.heap.push oI).objs.size ≠ H2.objs.size := by rw [hC, hD]; exact Nat.ne_of_lt (Nat.lt_succ_self _)
  have toH1 : ∀ b o, b ≠ H2.objs.size -> H2.get? b = some o -> h₁.get? b = some o := fun b o hb e => hsb₁.extBut b o hb (Heap.get?_push_of_some _ e)
  have old : ∀ b o, s.heap.get? b = some o -> h₁.get? b = some o := fun b o e =>
    toH1 b o (by rw [hC]; exact low (Heap.lt_size e)) (hH2 ▸ Heap.get?_push_of_some _ (Heap.get?_push_of_some _ e))
  have old1 : ∀ b o, (s.heap.push oI).get? b = some o -> h₁.get? b = some o := fun b o e => by
    have hb := Heap.lt_size e
    refine toH1 b o (fun q => ?_) (hH2 ▸ Heap.get?_push_of_some _ e)
    rw [q, hC, hD] at hb
    exact absurd hb (Nat.not_lt.mpr (Nat.le_succ _))
  have gD : h₁.get? (s.heap.push oI).objs.size = some (lstO #[] 0) := toH1 _ _ nDC (hH2 ▸ Heap.get?_push_size _ rfl)
  have hsz : s.heap.objs.size <= h₁.objs.size := by
    have := Heap.lt_size gD
    rw [hD] at this
    exact Nat.le_of_lt (Nat.lt_of_succ_lt this)
  have liveI : ∀ k h, St k h -> ∃ o, h.get? s.heap.objs.size = some o := fun k h st => let ⟨o, e, _⟩ := T.live k h st; ⟨o, e⟩
  have st0 : St 0 h₁ := by
    refine (T.walks A hh).frame 0 _ _ T.start fun b hb o e => old1 b o e
  have nsNew : ∀ b ∈ [s.heap.objs.size, (s.heap.push oI).objs.size, H2.objs.size], s.heap.objs.size <= b := by
    intro b hb
    rcases mem3 hb with rfl | rfl | rfl
    · exact Nat.le_refl _
    · rw [hD]; exact Nat.le_succ _
    · rw [hC]; exact Nat.le_add_right _ _
  have I₁ : Inv G fs ⟨H.ρ, [s.heap.objs.size, (s.heap.push oI).objs.size, H2.objs.size] ++ H.fr⟩ S { s with heap := h₁, toks := s.toks + ([] : List (Str × Value)).length } := by
    refine I₀.more old nsNew fun b hb => ?_
    rcases mem3 hb with rfl | rfl | rfl
    · exact liveI 0 h₁ st0
    · exact mk11 _ gD
    · refine ob32 hns₁ fun o es ep e _ => ?_; clear hns₁; exact mk11 o e
  have V₁ := V.more (ns := [s.heap.objs.size, (s.heap.push oI).objs.size, H2.objs.size]) old nsNew
  have hCc : ∀ y i c, slot sc.names y = some (i, .cell) -> env.cells.lookup y = some c -> c ≠ H2.objs.size := fun y i c q e => by
    refine ob13 (V.cells y i q) fun c' e1 e2 _ => ?_
    rw [e] at e1; cases e1
    rw [hC]; exact low (I₀.ltF e2)
  have W₁ := comp_env (scope := scope) V₁ hok (C := H2.objs.size) (by simp) hCc hns₁
  have fsI := I₀.noFrame I₀.freshF
  have hframes := I₀.frames
  have hTE : compEnvC scope (clOf env.cells scope.names []) H2.objs.size env = compEnvC scope (clOf env.cells scope.names []) H2.objs.size env := rfl
  generalize hce : compEnvC scope (clOf env.cells scope.names []) H2.objs.size env = cenv at W₁ hTE
  have hcl : cenv.locals = H2.objs.size := by rw [<- hce]; rfl
  have loop : codeAny G.M A (.compLoop (.ListComp elt [⟨.Name x px, iter, ifs, 0⟩] scope pos) 0 (.ref s.heap.objs.size) (.ref (s.heap.push oI).objs.size) cenv)
      (RRp (.ref (s.heap.push oI).objs.size) H2.objs.size) { s with heap := h₁, toks := s.toks + ([] : List (Str × Value)).length } := by
    refine codeAny_compLoop_tests (fun n s' => ∃ k H1 S1 done vs c, Mid G fs H h₁ cenv (compSc sc scope) (compSg sc σ scope.names) (turnM G.C cf ifs elt (compSc sc scope) (compSg sc σ scope.names) i) ds S s.heap.objs.size (s.heap.push oI).objs.size St n s' k H1 S1 done vs c) ?turn ds.length ?start
    case start =>
      refine mk61 0 _ S [] (#[]) 0 ⟨rfl, ?_, I₁, W₁, st0, gD, .nil, Nat.le_refl _, by simpa using hne, fun ys S' e => by simpa using e⟩
      rw [hcl]; exact Ext.refl
    case turn =>
      rintro n s₅ ⟨k, H1, S1, done, vs, c, M⟩
      have hfr : H1.fr = [s.heap.objs.size, (s.heap.push oI).objs.size, cenv.locals] ++ H.fr := M.x.fr
      have inI : s.heap.objs.size ∈ H1.fr := by rw [hfr]; exact List.mem_cons_self ..
      have inD : (s.heap.push oI).objs.size ∈ H1.fr := by rw [hfr]; exact List.mem_cons_of_mem _ (List.mem_cons_self ..)
      have inC : cenv.locals ∈ H1.fr := by rw [hfr]; exact List.mem_cons_of_mem _ (List.mem_cons_of_mem _ (List.mem_cons_self ..))
      have hlen : vs.size = done.length := by rw [<- M.rd.length]; simp
      cases n with
      | zero =>
        have hk : k = ds.length := by have := M.cnt; lia
        refine wpAny_size ((T.walks A hh).done s₅ _ _ (hk ▸ M.st) fun h' tk keep hz => ?_)
        have keep' : ∀ b o, b ≠ s.heap.objs.size -> s₅.heap.get? b = some o -> h'.get? b = some o := fun b o hb e => keep b o (by simpa using hb) e
        refine ob12 M.env.ns fun m hm _ => ?_
        have nsub : ∀ b ∈ [cenv.locals] ++ H.fr, b ∈ H1.fr := fun b hb => by
          rw [hfr]
          rcases List.mem_append.mp hb with q | q
          · have q := List.mem_singleton.mp q; subst q; simp
          · exact List.mem_append_right _ q
        have frlt : ∀ b ∈ H.fr, b < s.heap.objs.size := fun b hb => I₀.ltF hb
        have Dnot : (s.heap.push oI).objs.size ∉ [cenv.locals] ++ H.fr := fun q => by
          rcases List.mem_append.mp q with q | q
          · have q := List.mem_singleton.mp q; rw [hcl] at q; exact nDC q
          · have := frlt _ q; rw [hD] at this; exact absurd this (Nat.not_lt.mpr (Nat.le_succ _))
        have Inot : ∀ b, (b ∉ H1.fr \/ b ∈ (s.heap.push oI).objs.size :: ([cenv.locals] ++ H.fr)) -> b ≠ s.heap.objs.size := by
          rintro b (q | q) rfl
          · exact q inI
          · rcases List.mem_cons.mp q with q | q
            · exact nID q
            · rcases List.mem_append.mp q with q | q
              · have q := List.mem_singleton.mp q; rw [hcl] at q; exact nIC q
              · exact absurd (frlt _ q) (Nat.lt_irrefl _)
        obtain ⟨d, S2, t, f1, f2, f3, f4⟩ := adopt (tk := tk) (h' := h') (fr := [cenv.locals] ++ H.fr) G.C pos M.inv inD Dnot M.lst (by rw [hlen]; exact Nat.le_trans M.few (by rw [hk]; exact T.len)) M.rd nsub
          (fun env he L hL => List.mem_append_right _ (hframes env he L hL)) (fun b o q e => keep' b o (Inot b q) e)
        refine hR _ _ _ (done ++ []) S1 d S2 _ m (by rw [hC]; exact Nat.le_add_right _ _) (M.rest [] S1 (by rw [hk, List.drop_length]; rfl)) (by rw [List.append_nil]; exact f1) ?_ f3 f4 ?_
        · rw [<- hcl]
          refine ob12 M.x.pre fun u hu1 hu2 => ?_
          refine ⟨rfl, ⟨u ++ t, by show H1.ρ ++ t = H.ρ ++ (u ++ t); rw [hu1, List.append_assoc], fun b hb => ?_⟩, fun b o h1 h2 e => ?_, fun b o h2 h3 e => ?_, ?_⟩
          · rcases List.mem_append.mp hb with q | q
            · exact Nat.le_trans hsz (hu2 b q)
            · rw [f2 b q, hD]; exact Nat.le_succ _
          · have hb := Heap.lt_size e
            refine keep' b o (Nat.ne_of_lt hb) (M.x.keep b o h1 (fun q => ?_) (old b o e))
            rcases List.mem_append.mp q with q | q
            · exact absurd hb (Nat.not_lt.mpr (nsNew b (hcl ▸ q)))
            · exact h2 (List.mem_append_right _ q)
          · have hb := Heap.lt_size e
            have hbH : b ∈ H.fr := by
              rcases List.mem_append.mp h2 with q | q
              · exact absurd q h3
              · exact q
            refine ob12 (M.x.keepF b o (List.mem_append_right _ hbH) (fun q => absurd hb (Nat.not_lt.mpr (nsNew b (hcl ▸ q)))) (old b o e)) fun sl e1 e2 => ?_
            exact mk12 sl (keep' b _ (Nat.ne_of_lt hb) e1) e2
          · exact Nat.le_trans hsz (Nat.le_trans M.x.size hz)
        · rw [<- hcl]
          exact Ns.upto hm fun o q => mk11 o.slots (keep' _ _ (by rw [hcl]; exact Ne.symm nIC) q)
      | succ n =>
        have hk : k < ds.length := by have := M.cnt; lia
        refine wpAny_size ((T.walks A hh).item k s₅ _ _ hk M.st fun v h' tk p st' keep hz => ?_)
        have keep' : ∀ b o, b ≠ s.heap.objs.size -> s₅.heap.get? b = some o -> h'.get? b = some o := fun b o hb e => keep b o (by simpa using hb) e
        refine ob12 (T.item k v p) fun d hd rv => ?_
        have hdrop : ds.drop k = d :: ds.drop (k + 1) := by
          rw [List.drop_eq_getElem_cons hk]
          rw [List.getElem?_eq_getElem hk] at hd
          cases hd; rfl
        refine ob02 (M.inv.setF (tk := tk) inI keep' hz (let ⟨o, e⟩ := liveI _ _ st'; ⟨o, e, .inr fsI⟩)) fun J6 xI => ?_
        have sub1 : ∀ b ∈ [s.heap.objs.size], b ∈ [s.heap.objs.size, (s.heap.push oI).objs.size, cenv.locals] := by simp
        have x6 := M.x.trans (xI.mono sub1)
        have hOff : ∀ X : List Addr, (∀ b ∈ X, s.heap.objs.size <= b /\ b ≠ cenv.locals) -> EnvOff cenv (compSc sc scope) X := fun X hX =>
          ⟨fun q => (hX _ q).2 rfl, fun y j c q e z => by
            refine ob11 (comp_cell hok q) fun j' q' => ?_
            refine ob13 (V.cells y j' q') fun c' f1 f2 _ => ?_
            rw [<- hce] at e
            have := clOf_up e
            rw [f1] at this; cases this
            exact absurd (I₀.ltF f2) (Nat.not_lt.mpr (hX _ z).1)⟩
        have V6 := M.env.stepX xI (hOff _ (by intro b hb; simp only [List.mem_singleton] at hb; subst hb; exact ⟨Nat.le_refl _, by rw [hcl]; exact nIC⟩))
        have rv6 := Rd.into old (hcl ▸ nsNew) x6 rv
        refine wpAny_assign_Name (put_local J6 V6 rv6 (comp_local hx) fun h7 tk7 x7 J7 V7 => ?_)
        have ne1 := M.ne
        rw [hdrop, compL_cons] at ne1
        have ne2 := bnd_inv ne1
        have gD7 : h7.get? (s.heap.push oI).objs.size = some (lstO vs c) :=
          x7.plain inD (by rw [hcl]; simpa using nDC) rfl (keep' _ _ (Ne.symm nID) M.lst)
        have frame : ∀ {H9 : Hid} {h9 : Heap}, Ext [(s.heap.push oI).objs.size, cenv.locals] H1 h' H9 h9 -> St (k + 1) h9 := fun y => by
          refine (T.walks A hh).frame (k + 1) _ _ st' fun b hb o e => ?_
          rcases T.fp b hb with rfl | ⟨b1, b2, o', b3⟩
          · refine ob12 (T.live _ _ st') fun o' e' hp => ?_
            rw [e] at e'; cases e'
            exact y.plain inI (by rw [hcl]; simp only [List.mem_cons, List.not_mem_nil, or_false, not_or]; exact ⟨nID, nIC⟩) hp e
          · have hb' := Heap.lt_size b3
            refine y.keep b o (M.x.notin b1 (Nat.lt_of_lt_of_le hb' hsz)) (fun q => ?_) e
            rw [hfr] at q
            rcases List.mem_append.mp q with q | q
            · exact absurd hb' (Nat.not_lt.mpr (nsNew b (hcl ▸ q)))
            · exact b2 q
        have unset : ∀ (j : Nat) (e : D), (compSg sc σ scope.names)[j]? = some (some e) -> (put (compSg sc σ scope.names) i d)[j]? = some (some e) := fun j e q => by
          have hj : j ≠ i := by
            rintro rfl
            rw [compSg_get hx] at q; cases q
          unfold put
          rw [List.getElem?_set_ne (Ne.symm hj)]; exact q
        have sub3 : ∀ b ∈ [cenv.locals], b ∈ [s.heap.objs.size, (s.heap.push oI).objs.size, cenv.locals] := by simp
        have sub2 : ∀ b ∈ [cenv.locals], b ∈ [(s.heap.push oI).objs.size, cenv.locals] := by simp
        have rd7 := (M.rd.step xI).step x7
        refine (ht J7 V7).then K ne2 fun ok b H8 S8 s8 e8 q8 n8 x8 J8 r8 => ?_
        cases r8
        cases ok with
        | false =>
          refine ⟨n, Nat.lt_succ_self _, k + 1, H8, S8, done, vs, c, ⟨by have := M.cnt; lia, (x6.trans (x7.mono sub3)).trans0 x8, J8, (V7.step x8).mono unset, frame ((x7.mono sub2).trans0 x8), x8.plain inD (by simp) rfl gD7, rd7.step x8, Nat.le_succ_of_le M.few, ?_, ?_⟩⟩
          · have q : turnM G.C cf ifs elt (compSc sc scope) (compSg sc σ scope.names) i d S1 = .ok none S8 := by
              unfold turnM; rw [bnd_at e8]; rfl
            rw [bnd_at q] at ne1
            exact bnd_inv ne1
          · intro ys S' e
            have q : turnM G.C cf ifs elt (compSc sc scope) (compSg sc σ scope.names) i d S1 = .ok none S8 := by
              unfold turnM; rw [bnd_at e8]; rfl
            refine M.rest ys S' ?_
            rw [hdrop, compL_cons, bnd_at q, bnd_at e]; rfl
        | true =>
          refine (he J8 (V7.step x8)).then K n8 fun y dy H9 S9 s9 e9 q9 n9 x9 J9 r9 => ?_
          have fr8 : H8.fr = H1.fr := x8.fr
          have fr9 : H9.fr = H1.fr := x9.fr.trans fr8
          have gD9 : s9.heap.get? (s.heap.push oI).objs.size = some (lstO vs c) := x9.plain (by rw [fr8]; exact inD) (by simp) rfl (x8.plain inD (by simp) rfl gD7)
          have hvs : vs.size < ds.length := by rw [hlen]; exact Nat.lt_of_le_of_lt M.few hk
          refine app_ok gD9 (Nat.le_of_lt (Nat.lt_of_lt_of_le hvs T.len)) fun h10 m' hs10 g10 => ?_
          refine ob02 (J9.setF (tk := s9.toks) (a := (s.heap.push oI).objs.size) (by rw [fr9]; exact inD) (fun b o hb e => (hs10.2 b hb).trans e) (Nat.le_of_eq hs10.1.symm) ⟨_, g10, .inr (I₀.noFrame fun q => absurd (I₀.ltF q) (by rw [Heap.size_push]; exact Nat.not_lt.mpr (Nat.le_succ _)))⟩) fun J10 x10 => ?_
          have q : turnM G.C cf ifs elt (compSc sc scope) (compSg sc σ scope.names) i d S1 = .ok (some dy) S9 := by
            unfold turnM; rw [bnd_at e8, if_pos rfl, bnd_at e9]; rfl
          have sub4 : ∀ b ∈ [(s.heap.push oI).objs.size], b ∈ [s.heap.objs.size, (s.heap.push oI).objs.size, cenv.locals] := by simp
          have sub5 : ∀ b ∈ [(s.heap.push oI).objs.size], b ∈ [(s.heap.push oI).objs.size, cenv.locals] := by simp
          refine ⟨n, Nat.lt_succ_self _, k + 1, H9, S9, done ++ [dy], vs.push y, m', ⟨by have := M.cnt; lia, (((x6.trans (x7.mono sub3)).trans0 x8).trans0 x9).trans (x10.mono sub4), J10,
            EnvOk.mono (s := { s9 with heap := h10, toks := s9.toks }) (((V7.step x8).step x9).stepX x10 (hOff _ (by intro b hb; simp only [List.mem_singleton] at hb; subst hb; exact ⟨by rw [hD]; exact Nat.le_succ _, by rw [hcl]; exact nDC⟩))) unset,
            frame ((((x7.mono sub2).trans0 x8).trans0 x9).trans (x10.mono sub5)), g10, ?_, ?_, ?_, ?_⟩⟩
          · have := (((rd7.step x8).step x9).step x10).append (.cons (r9.step x10) .nil)
            simpa using this
          · simp only [List.length_append, List.length_cons, List.length_nil]
            exact Nat.succ_le_succ M.few
          · rw [bnd_at q] at ne1
            exact bnd_inv ne1
          · intro ys S' e
            have := M.rest (dy :: ys) S' (by rw [hdrop, compL_cons, bnd_at q, bnd_at e]; rfl)
            simpa using this
  subst hce
  exact codeAny_compStart_list loop ((T.walks A hh).self 0 _ _ _ st0 loop)
end
end Mine
end

section
namespace Mine
open PySem
section
variable {G : Glo} {fs : List Env} {A : Around} {cf : Str -> List D -> EM D} {r : Nat} {H H2 : Hid} {S S2 : Store} {s s' : Shared} {env : Env} {sc scope : Scope} {σ : Sg}
theorem leave_one {C : Addr} {X Y : List Addr} {h'' : Heap} (I₀ : Inv G fs H S s) (hC : s.heap.objs.size <= C) (hX : ∀ b ∈ X, b ∈ [C] \/ b ∈ Y) (x : Ext X ⟨H.ρ, [C] ++ H.fr⟩ s.heap H2 s'.heap) (J : Inv G fs H2 S2 s') (hs : Heap.SameBut C s'.heap h'') :
    Ext Y H s.heap ⟨H2.ρ, H.fr⟩ h'' /\ Inv G fs ⟨H2.ρ, H.fr⟩ S2 { s' with heap := h'' } /\ (∀ v d, Rd G.P H2 s'.heap v d -> Rd G.P ⟨H2.ρ, H.fr⟩ h'' v d) := by
  have inC : C ∈ H2.fr := by rw [x.fr]; simp
  have hf : ∀ b ∈ H.fr, b ∈ H2.fr := fun b hb => by rw [x.fr]; exact List.mem_append_right _ hb
  have ne : ∀ b, (b ∉ H2.fr \/ b ∈ H.fr) -> b ≠ C := by
    rintro b (q | q) rfl
    · exact q inC
    · exact absurd (I₀.ltF q) (Nat.not_lt.mpr hC)
  have hk : ∀ b o, (b ∉ H2.fr \/ b ∈ H.fr) -> s'.heap.get? b = some o -> h''.get? b = some o := fun b o q e => (hs.2 b (ne b q)).trans e
  refine ⟨?_, J.leave (tk := s'.toks) hf I₀.frames hk, fun v d q => Rd.ext (H := H2) (H' := ⟨H2.ρ, H.fr⟩) (fun b o h1 h2 e => ⟨h1, fun z => h2 (hf b z), hk b o (.inl h2) e⟩) (fun _ _ e => e) q⟩
  exact Ext.around' (fun _ _ e => e) (Nat.le_refl _) (by intro b hb; simp only [List.mem_singleton] at hb; subst hb; exact hC) hX x (fun b o hb e => (hs.2 b (by simpa using hb)).trans e) (Nat.le_of_eq hs.1.symm)
theorem evComp_eq {C : Cfg} {x : Str} {px pos : Pos} {iter elt : Expr} {ifs : List Expr} : ev C cf (.ListComp elt [⟨.Name x px, iter, ifs, 0⟩] scope pos) sc σ = if compOk sc scope then bnd (ev C cf iter sc σ) fun it => bnd (optM (itemsOf it)) fun ds =>
      (match slot scope.names x with
      | some (i, .local) => bnd (compL (turnM C cf ifs elt (compSc sc scope) (compSg sc σ scope.names) i) ds) fun ys => mkList C pos ys
      | _ => stk) else stk := rfl
theorem comp_run (K : G.Ok) (X : Cxt G fs A r) {elt iter : Expr} {x : Str} {px pos : Pos} {ifs : List Expr} (hi : EvOk G fs A cf iter) (ht : TestsOk G fs A cf ifs) (he : EvOk G fs A cf elt) (I : Inv G fs H S s) (V : EnvOk G H s.heap env sc σ)
    (hne : ev G.C cf (.ListComp elt [⟨.Name x px, iter, ifs, 0⟩] scope pos) sc σ S ≠ .stuck) {cpos : Pos} {use : Option (Value -> Sem Unit)} {Q : Value -> Shared -> Prop} {E : Value -> Shared -> Prop}
    (hQ : ∀ D C s1 H1 S1 s' d S2 H2 m, Ext [] H s.heap H1 s1.heap -> Inv G fs H1 S1 s1 -> s1.heap.objs.size <= C -> ev G.C cf (.ListComp elt [⟨.Name x px, iter, ifs, 0⟩] scope pos) sc σ S = .ok d S2 -> Ext [C] ⟨H1.ρ, [C] ++ H1.fr⟩ s1.heap H2 s'.heap -> Inv G fs H2 S2 s' ->
      Rd G.P H2 s'.heap (.ref D) d -> s'.heap.Ns C m -> compPost G.M A E use Q (.ref D) C (.ok .next) s') :
    wpAny G.M A (comprehension (.ListComp elt [⟨.Name x px, iter, ifs, 0⟩] scope pos) scope env cpos (newList []) false (eval iter env) use) Q E s := by
  rw [evComp_eq] at hne hQ
  by_cases hok : compOk sc scope = true
  · rw [if_pos hok] at hne hQ
    refine ob04 (compOk_inv hok) fun k1 k2 k3 k4 => ?_
    have hcl : closureFor scope env = pure (clOf env.cells scope.names []) := closure_ok fun p hp q => by
      refine ob11 (k4 p hp q) fun j e => ?_
      refine ob12 (V.cells p.1 j e) fun c e1 _ => ?_
      exact mk11 c e1
    refine wpAny_comprehension_free rfl (folded hne env) hcl k1 k3 ((hi I V).then K hne fun v it H1 S1 s1 e1 q1 n1 x1 I1 r1 => ?_)
    rw [q1] at hQ
    cases hds : itemsOf it with
    | none => rw [hds] at n1; exact absurd rfl n1
    | some ds =>
      have q2 : ∀ f : List D -> EM D, bnd (optM (some ds)) f S1 = f ds S1 := fun f => rfl
      rw [hds, q2] at n1 hQ
      cases hx : slot scope.names x with
      | none => rw [hx] at n1; exact absurd rfl n1
      | some p =>
        obtain ⟨i, k⟩ := p
        rw [hx] at n1 hQ
        cases k with
        | «local» =>
          dsimp only at n1 hQ
          refine iter_ok r1 hds fun o fp P St T => ?_
          refine comp_core K X.handled ht he I1 (V.step x1) hok hx T (bnd_inv n1) (RRp := fun acc C => compPost G.M A E use Q acc C) fun D C s' done S1' d S2 H2 m hC hd hm x2 I2 r2 hn => ?_
          exact hQ D C s1 H1 S1 s' d S2 H2 m x1 I1 hC (by rw [bnd_at hd]; exact hm) x2 I2 r2 hn
        | _ => exact absurd rfl n1
  · rw [if_neg hok] at hne; exact absurd rfl hne
theorem comp_arm (K : G.Ok) (X : Cxt G fs A r) {elt iter : Expr} {x : Str} {px pos : Pos} {ifs : List Expr} (hi : EvOk G fs A cf iter) (ht : TestsOk G fs A cf ifs) (he : EvOk G fs A cf elt) : EvOk G fs A cf (.ListComp elt [⟨.Name x px, iter, ifs, 0⟩] scope pos) := by
  intro H S s env sc σ I V hne
  rw [eval_ListComp]
  refine comp_run K X hi ht he I V hne fun D C s1 H1 S1 s' d S2 H2 m x1 I1 hC he x2 I2 r2 hn => ?_
  refine mk12 m hn (fun h'' hs => ?_)
  refine ob03 (leave_one (Y := []) I1 hC (fun b hb => .inl hb) x2 I2 hs) fun y1 y2 y3 => ?_
  exact mk34 d S2 _ he (x1.trans y1) y2 (y3 _ _ r2)
end
end Mine
end

section
namespace Mine
open PySem
section
variable {G : Glo} {fs : List Env} {A : Around} {cf : Str -> List D -> EM D} {r : Nat}
set_option tactic.hygienic true in
theorem attrM_inv {C : Cfg} {a : D} {x : Str} {S : Store} (h : attrM C a x S ≠ .stuck) : ∃ k c dn ns d, a = .loc k /\ S[k]? = some (.inst c dn) /\ S[dn]? = some (.ns ns) /\ (C.clss.contains c = true /\ C.att c x = true) /\ ns.lookup x = some d /\ attrM C a x S = .ok d S := by
  unfold attrM at h
  split at h
  · rename_i n
    split at h
    · rename_i c dn hS
      split at h
      · rename_i ns hN
        split at h
        · rename_i hc
          cases hl : ns.lookup x with
          | none => rw [hl] at h; exact absurd rfl h
          | some d =>
            refine mk56 n c dn ns d rfl hS hN (Bool.and_eq_true_iff.mp hc) hl ?_
            unfold attrM
            dsimp only
            rw [hS]
            dsimp only
            rw [hN]
            dsimp only
            rw [if_pos hc, hl]
            rfl
        · exact absurd rfl h
      · exact absurd rfl h
    · exact absurd rfl h
  · exact absurd rfl h
theorem attr_arm (K : G.Ok) (X : Cxt G fs A r) (hn : ∀ y np, EvOk G fs A cf (.Name y np)) {o : Expr} {m : Str} {p : Pos} : EvOk G fs A cf (.Attribute o m p) := by
  intro H S s env sc σ I V
  cases o with
  | Name y np =>
    have q : ev G.C cf (.Attribute (.Name y np) m p) sc σ = bnd (ev G.C cf (.Name y np) sc σ) fun a => attrM G.C a m := rfl
    rw [q]
    intro hne
    refine PyProof.Rows.Attribute_any_ ((hn y np I V).then K hne fun v d H1 S1 s1 e1 q1 n1 x1 I1 r1 => ?_)
    refine ob56 (attrM_inv n1) fun k c dn ns d' er1 h1 h2 h3 h4 h5 => ?_; subst er1
    rw [q1, h5]
    refine ob31 (K.cls c h3.1) fun Ca N mN F => ?_
    exact wpAny_mono (att_load F h3.2 I1 r1 h1 h2 h4) (fun _ _ p => p.trans x1) fun _ _ p => p
  | _ => exact fun h => absurd rfl h
end
end Mine
end

section
namespace Mine
open PySem
section
variable {G : Glo} {fs : List Env} {A : Around} {cf : Str -> List D -> EM D} {r : Nat}
theorem ev_stk {e : Expr} (h : ∀ sc σ S, ev G.C cf e sc σ S = .stuck) : EvOk G fs A cf e := fun _ _ => Wp.stuck (h _ _ _)
theorem name_arm (K : G.Ok) (x : Str) (pos : Pos) : EvOk G fs A cf (.Name x pos) := by
  intro H S s env sc σ I V
  rw [q_name]
  exact name_ok K I V x pos
theorem bnd_stuck {α β : Type} {m : EM α} {f : α -> EM β} {S : Store} (h : m S = .stuck) : bnd m f S = .stuck := by unfold bnd; rw [h]
noncomputable def isAttr : Expr -> Bool
  | .Attribute .. => true
  | _ => false
noncomputable def isSlice : Expr -> Bool
  | .Slice .. => true
  | _ => false
theorem attr_no {e : Expr} (h : isAttr e = false) (o : Expr) (m : Str) (p : Pos) (q : e = .Attribute o m p) : False := by rw [q] at h; cases h
theorem slice_ne {e : Expr} (h : isSlice e = false) (lo hi st : Option Expr) (p : Pos) (q : e = .Slice lo hi st p) : False := by rw [q] at h; cases h
structure EAll (G : Glo) (fs : List Env) (A : Around) (cf : CF) (e : Expr) : Prop where
  ev : EvOk G fs A cf e
  t : TOk G fs A cf e
  attr : ∀ o m p, e = .Attribute o m p -> EvOk G fs A cf o
  sub : ∀ v pos, EvOk G fs A cf v -> EvOk G fs A cf (.Subscript v e pos)
structure LAll (G : Glo) (fs : List Env) (A : Around) (cf : CF) (es : List Expr) : Prop where
  all : AllOk G fs A cf es
  bools : BoolsOk G fs A cf es
  cmp : CmpOk G fs A cf es
  chain : ChainOk G fs A cf es
  tall : TAllOk G fs A cf es
  tests : TestsOk G fs A cf es
theorem EAll.val (K : G.Ok) (hu : A.units <= 8900) {e : Expr} (he : EvOk G fs A cf e) (h1 : ∀ env whole, isTrue e env whole = (do let v <- whole; standAt e.pos; holding [v] (truthy v))) (h2 : ∀ sc σ w, evT G.C cf e sc σ w = bnd w truthM)
    (ha : isAttr e = false := by rfl) (hs : isSlice e = false := by rfl) : EAll G fs A cf e :=
  ⟨he, valT_arm K h1 h2 he, fun o m p q => (attr_no ha o m p q).elim, fun _ _ hv => item_arm K hu (slice_ne hs) hv he⟩
theorem EAll.test (K : G.Ok) (hu : A.units <= 8900) {e : Expr} (he : EvOk G fs A cf e) (ht : TOk G fs A cf e)
    (ha : isAttr e = false := by rfl) (hs : isSlice e = false := by rfl) : EAll G fs A cf e :=
  ⟨he, ht, fun o m p q => (attr_no ha o m p q).elim, fun _ _ hv => item_arm K hu (slice_ne hs) hv he⟩
theorem EAll.no (K : G.Ok) (hu : A.units <= 8900) {e : Expr} (h : ∀ sc σ S, Mine.ev G.C cf e sc σ S = .stuck) (h2 : ∀ sc σ w, evT G.C cf e sc σ w = bnd w truthM)
    (ha : isAttr e = false := by rfl) (hs : isSlice e = false := by rfl) : EAll G fs A cf e :=
  EAll.test K hu (ev_stk h) (fun _ _ => Wp.stuck (by rw [h2]; exact bnd_stuck (h _ _ _))) ha hs
theorem slice_no (K : G.Ok) {v : Expr} {lo hi : Option Expr} {st : Expr} {p pos : Pos} (hv : EvOk G fs A cf v) : EvOk G fs A cf (.Subscript v (.Slice lo hi (some st) p) pos) := by
  intro H S s env sc σ I V
  rw [q_sub]
  have he : ∀ a w, evSub G.C cf (.Slice lo hi (some st) p) sc σ a pos w = stk := fun _ _ => rfl
  intro hne
  simp only [he] at hne ⊢
  exact PyProof.Rows.Subscript_ ((hv I V).then K hne fun v d H1 S1 s1 e1 q1 n1 x1 I1 r1 => absurd rfl n1)
theorem nameE_inv {e : Expr} {x : Str} (h : nameE e = some x) : ∃ p, e = .Name x p := by
  unfold nameE at h
  split at h
  · cases h; exact mk11 _ rfl
  · cases h
theorem gens_inv {C : Cfg} {elt : Expr} {gens : List Comprehension} {scope : Scope} {pos : Pos} {sc : Scope} {σ : Sg} {S : Store} (h : ev C cf (.ListComp elt gens scope pos) sc σ S ≠ .stuck) : ∃ z pz iter ifs, gens = [⟨.Name z pz, iter, ifs, 0⟩] := by
  match gens, h with
  | [], h => exact absurd rfl h
  | ⟨_, _, _, _⟩ :: _ :: _, h => exact absurd rfl h
  | [⟨t, iter, ifs, a⟩], h =>
    have h' : bnd (optM (nameE t)) _ S ≠ .stuck := h
    refine ob13 (opt_inv h') fun x hn _ h2 => ?_
    refine ob11 (nameE_inv hn) fun p er1 => ?_; subst er1
    by_cases ha : (a == 0) = true
    · exact mk41 x p iter ifs (by rw [beq_iff_eq.mp ha])
    · exact absurd (by rw [if_neg ha]; rfl) h2
theorem gen_arm (K : G.Ok) (X : Cxt G fs A r) {elt t iter : Expr} {scope : Scope} {pos : Pos} {ifs : List Expr} {a : Int} (hi : EvOk G fs A cf iter) (ht : TestsOk G fs A cf ifs) (he : EvOk G fs A cf elt) : EvOk G fs A cf (.ListComp elt [⟨t, iter, ifs, a⟩] scope pos) := by
  intro H S s env sc σ I V hne
  refine ob41 (gens_inv hne) fun z pz _ _ e => ?_
  cases e
  exact comp_arm K X hi ht he I V hne
theorem Cxt.uu (X : Cxt G fs A r) : A.units <= 8900 := by have := X.units; lia
variable (K : G.Ok) (X : Cxt G fs A r) (hcf : CfOk G cf r)
include K X hcf
mutual
theorem e_all : ∀ e : Expr, EAll G fs A cf e
  | .Constant c k pos => EAll.val K X.uu (const_ok c k pos) (fun _ _ => rfl) (fun _ _ _ => rfl)
  | .Name x pos => EAll.val K X.uu (name_arm K x pos) (fun _ _ => rfl) (fun _ _ _ => rfl)
  | .BoolOp op es pos => EAll.test K X.uu (bool_arm (l_all es).bools) (boolT_arm (l_all es).tall)
  | .BinOp l op rr pos => EAll.val K X.uu (binop_arm K X (e_all l).ev (e_all rr).ev) (fun _ _ => rfl) (fun _ _ _ => rfl)
  | .UnaryOp op x pos => EAll.test K X.uu (unop_arm K (e_all x).ev) (match op with
    | .Not => not_arm K (e_all x).t
    | .UAdd => valT_arm K (fun _ _ => rfl) (fun _ _ _ => rfl) (unop_arm K (e_all x).ev)
    | .USub => valT_arm K (fun _ _ => rfl) (fun _ _ _ => rfl) (unop_arm K (e_all x).ev)
    | .Invert => valT_arm K (fun _ _ => rfl) (fun _ _ _ => rfl) (unop_arm K (e_all x).ev))
  | .Compare l ops rs pos => EAll.test K X.uu (cmp_arm K (e_all l).ev (l_all rs).cmp) (cmpT_arm K (e_all l).ev (l_all rs).chain)
  | .Tuple es k pos => EAll.val K X.uu (tuple_arm K (l_all es).all) (fun _ _ => rfl) (fun _ _ _ => rfl)
  | .List es pos => EAll.val K X.uu (list_arm K (l_all es).all) (fun _ _ => rfl) (fun _ _ _ => rfl)
  | .Subscript v sl pos => EAll.val K X.uu ((e_all sl).sub v pos (e_all v).ev) (fun _ _ => rfl) (fun _ _ _ => rfl)
  | .ListComp elt gens scope pos => EAll.val K X.uu (g_all gens elt scope pos (e_all elt).ev) (fun _ _ => rfl) (fun _ _ _ => rfl)
  | .Call f l kws pos => EAll.val K X.uu (call_arm K X hcf (e_all f).attr (l_all l).all) (fun _ _ => rfl) (fun _ _ _ => rfl)
  | .Attribute o m p => ⟨attr_arm K X (name_arm K), valT_arm K (fun _ _ => rfl) (fun _ _ _ => rfl) (attr_arm K X (name_arm K)), fun o' m' p' q => by cases q; exact (e_all o).ev, fun _ _ hv => item_arm K X.uu (fun _ _ _ _ h => by cases h) hv (attr_arm K X (name_arm K))⟩
  | .Slice lo hi st p => ⟨ev_stk fun _ _ _ => rfl, fun _ _ => Wp.stuck rfl, (fun _ _ _ h => nomatch h), fun _ _ hv => match st with
    | none => slice_arm K hv (o_all lo) (o_all hi)
    | some _ => slice_no K hv⟩
  | .IfExp .. => EAll.test K X.uu (ev_stk fun _ _ _ => rfl) (fun _ _ => Wp.stuck rfl)
  | .NamedExpr .. => EAll.no K X.uu (fun _ _ _ => rfl) (fun _ _ _ => rfl)
  | .Lambda .. => EAll.no K X.uu (fun _ _ _ => rfl) (fun _ _ _ => rfl)
  | .Dict keys values pos => EAll.val K X.uu (fun I V => dictE_ok K I V) (fun _ _ => rfl) (fun _ _ _ => rfl)
  | .Set .. => EAll.no K X.uu (fun _ _ _ => rfl) (fun _ _ _ => rfl)
  | .SetComp .. => EAll.no K X.uu (fun _ _ _ => rfl) (fun _ _ _ => rfl)
  | .DictComp .. => EAll.no K X.uu (fun _ _ _ => rfl) (fun _ _ _ => rfl)
  | .GeneratorExp .. => EAll.no K X.uu (fun _ _ _ => rfl) (fun _ _ _ => rfl)
  | .Await .. => EAll.no K X.uu (fun _ _ _ => rfl) (fun _ _ _ => rfl)
  | .Yield .. => EAll.no K X.uu (fun _ _ _ => rfl) (fun _ _ _ => rfl)
  | .YieldFrom .. => EAll.no K X.uu (fun _ _ _ => rfl) (fun _ _ _ => rfl)
  | .FormattedValue .. => EAll.no K X.uu (fun _ _ _ => rfl) (fun _ _ _ => rfl)
  | .JoinedStr .. => EAll.no K X.uu (fun _ _ _ => rfl) (fun _ _ _ => rfl)
  | .Starred .. => EAll.no K X.uu (fun _ _ _ => rfl) (fun _ _ _ => rfl)
theorem l_all : ∀ es : List Expr, LAll G fs A cf es
  | [] => ⟨all_nil, bools_nil, cmp_nil, chain_nil, tall_nil, tests_nil⟩
  | e :: es => ⟨all_cons K (e_all e).ev (l_all es).all, bools_cons K (e_all e).ev (l_all es).bools, cmp_cons K (Nat.le_trans X.uu (by decide)) (e_all e).ev, chain_cons K X (e_all e).ev,
    tall_cons K (e_all e).t (l_all es).tall, tests_cons K (e_all e).t (l_all es).tests⟩
theorem o_all : ∀ o : Option Expr, OptOk G fs A cf o
  | none => opt_none
  | some e => opt_some (e_all e).ev
theorem g_all : ∀ (gs : List Comprehension) (elt : Expr) (scope : Scope) (pos : Pos), EvOk G fs A cf elt -> EvOk G fs A cf (.ListComp elt gs scope pos)
  | [], _, _, _, _ => ev_stk fun _ _ _ => rfl
  | [⟨t, iter, ifs, a⟩], elt, scope, pos, he => gen_arm K X (e_all iter).ev (l_all ifs).tests he
  | ⟨_, _, _, _⟩ :: _ :: _, _, _, _, _ => ev_stk fun _ _ _ => rfl
end
end
end Mine
end

section
namespace Mine
open PySem
noncomputable def FlR (G : Glo) (env : Env) (sc : Scope) (H : Hid) (h : Heap) : Flow -> Fl -> Prop
  | .next, .next σ => EnvOk G H h env sc σ
  | .ret v, .ret d => Rd G.P H h v d
  | _, _ => False
noncomputable def Post (G : Glo) (fs : List Env) (env : Env) (sc : Scope) (H : Hid) (h : Heap) (r : Out Fl) (f : Flow) (s' : Shared) : Prop :=
  ∃ fl S' H', r = .ok fl S' /\ Ext (xs env) H h H' s'.heap /\ Inv G fs H' S' s' /\ FlR G env sc H' s'.heap f fl
section
variable (G : Glo) (fs : List Env) (A : Around) (cf : CF)
structure SOk (st : Stmt) : Prop where
  go : ∀ {H : Hid} {S : Store} {s : Shared} {env : Env} {sc : Scope} {σ : Sg}, (∃ l, fs = env :: l) -> Inv G fs H S s -> EnvOk G H s.heap env sc σ -> ex G.C cf st sc σ S ≠ .stuck ->
    wpAny G.M A (exec st env) (Post G fs env sc H s.heap (ex G.C cf st sc σ S)) NoE s
structure BOk (b : List Stmt) : Prop where
  go : ∀ {H : Hid} {S : Store} {s : Shared} {env : Env} {sc : Scope} {σ : Sg}, (∃ l, fs = env :: l) -> Inv G fs H S s -> EnvOk G H s.heap env sc σ -> exs G.C cf b sc σ S ≠ .stuck ->
    wpAny G.M A (execs b env) (Post G fs env sc H s.heap (exs G.C cf b sc σ S)) NoE s
end
section
variable {G : Glo} {fs : List Env} {A : Around} {cf : Str -> List D -> EM D} {r : Nat} {H : Hid} {S : Store} {s : Shared} {env : Env} {sc : Scope} {σ : Sg}
theorem Post.trans {h : Heap} {H1 : Hid} {h1 : Heap} {m : Out Fl} {f : Flow} {s' : Shared} (x : Ext (xs env) H h H1 h1) (p : Post G fs env sc H1 h1 m f s') : Post G fs env sc H h m f s' := by
  refine ob33 p fun c S' H' a b d => ?_; clear p
  exact mk33 c S' H' a (x.trans b) d
theorem pass_arm (pos : Pos) : SOk G fs A cf (.Pass pos) := by
  constructor
  intro H S s env sc σ F0 I V hne
  exact wpAny_Pass ⟨.next σ, S, H, rfl, Ext.refl, I, V⟩
theorem ret_arm (K : G.Ok) (X : Cxt G fs A r) (hcf : CfOk G cf r) {e : Expr} {pos : Pos} : SOk G fs A cf (.Return (some e) pos) := by
  constructor
  intro H S s env sc σ F0 I V
  have q : ex G.C cf (.Return (some e) pos) sc σ = bnd (ev G.C cf e sc σ) fun d => ret (.ret d) := rfl
  rw [q]
  intro hne
  refine wpAny_Return_some (((e_all K X hcf e).ev I V).then K hne fun v d H1 S1 s1 e1 q1 n1 x1 I1 r1 => ?_)
  rw [q1]
  exact mk34 (.ret d) S1 H1 rfl x1.weaken I1 r1
theorem ret0_arm {pos : Pos} : SOk G fs A cf (.Return none pos) := by
  constructor
  intro H S s env sc σ F0 I V hne
  exact wpAny_Return_none ⟨.ret .none, S, H, rfl, Ext.refl, I, .none⟩
theorem inter_no (V : EnvOk G H s.heap env sc σ) : interactive env = false := by
  unfold interactive
  rw [V.scope, V.kind]; rfl
theorem swaps_no {e : Expr} {t : Option Expr} {n : Nat} {env : Env} (h : notComp e = true) : swapsWith e t n env = pure false := by
  cases e <;> first | rfl | cases h
theorem expr_arm (K : G.Ok) (X : Cxt G fs A r) (hcf : CfOk G cf r) {e : Expr} {pos : Pos} : SOk G fs A cf (.Expr e pos) := by
  constructor
  intro H S s env sc σ F0 I V
  have q : ex G.C cf (.Expr e pos) sc σ = if notComp e then bnd (ev G.C cf e sc σ) fun _ => ret (.next σ) else stk := rfl
  rw [q]
  intro hne
  by_cases hc : notComp e = true
  · rw [if_pos hc] at hne ⊢
    refine wpAny_Expr_any (((e_all K X hcf e).ev I V).then K hne fun v d H1 S1 s1 e1 q1 n1 x1 I1 r1 => ?_) (inter_no V) (swaps_no hc)
    rw [q1]
    exact mk34 (.next σ) S1 H1 rfl x1.weaken I1 (V.step x1)
  · rw [if_neg hc] at hne; exact absurd rfl hne
theorem if_arm (K : G.Ok) {t : Expr} {b o : List Stmt} {pos : Pos} (ht : TOk G fs A cf t) (hb : BOk G fs A cf b) (ho : BOk G fs A cf o) : SOk G fs A cf (.If t b o pos) := by
  constructor
  intro H S s env sc σ F0 I V
  rw [q_if]
  intro hne
  refine wpAny_If ((ht I V).then K hne fun v d H1 S1 s1 e1 q1 n1 x1 I1 r1 => ?_)
  rw [q1]
  cases r1
  cases v with
  | true => exact wpAny_mono (hb.go F0 I1 (V.step x1) n1) (fun _ _ p => p.trans x1.weaken) fun _ _ p => p
  | false => exact wpAny_mono (ho.go F0 I1 (V.step x1) n1) (fun _ _ p => p.trans x1.weaken) fun _ _ p => p
theorem execs_nil : BOk G fs A cf [] := by
  constructor
  intro H S s env sc σ F0 I V hne
  exact wpAny_execs_nil ⟨.next σ, S, H, rfl, Ext.refl, I, V⟩
theorem execs_cons {st : Stmt} {b : List Stmt} (hs : SOk G fs A cf st) (hb : BOk G fs A cf b) : BOk G fs A cf (st :: b) := by
  constructor
  intro H S s env sc σ F0 I V
  rw [show exs G.C cf (st :: b) sc σ = bnd (ex G.C cf st sc σ) fun f => match f with
    | .next σ' => exs G.C cf b sc σ'
    | .ret d => ret (.ret d) from rfl]
  intro hne
  refine wpAny_execs_cons (wpAny_mono (hs.go F0 I V (bnd_inv hne)) (fun f s1 p => ?_) fun _ _ p => p)
  refine ob34 p fun fl S1 H1 e1 x1 I1 r1 => ?_; clear p
  rw [bnd_at e1] at hne ⊢
  cases fl with
  | next σ1 =>
    cases f with
    | next => exact wpAny_mono (hb.go F0 I1 r1 hne) (fun _ _ p => p.trans x1) fun _ _ p => p
    | _ => exact r1.elim
  | ret d =>
    cases f with
    | ret v => exact mk34 (.ret d) S1 H1 rfl x1 I1 r1
    | _ => exact r1.elim
set_option tactic.hygienic true in
theorem bind_ok (I : Inv G fs H S s) (V : EnvOk G H s.heap env sc σ) {x : Str} {v : Value} {d : D} (r : Rd G.P H s.heap v d) (hne : bnd (optM (putName sc σ x d)) (fun σ' => ret (Fl.next σ')) S ≠ .stuck) {E : Value -> Shared -> Prop} {Q : Unit -> Shared -> Prop}
    (hQ : ∀ s', Post G fs env sc H s.heap (bnd (optM (putName sc σ x d)) (fun σ' => ret (Fl.next σ')) S) .next s' -> Q () s') : wpAny G.M A (storeName env x v) Q E s := by
  cases hp : putName sc σ x d with
  | none => rw [hp] at hne; exact absurd rfl hne
  | some σ' =>
    rw [hp] at hQ
    exact put_ok I V r hp fun h' tk x' J W => hQ _ ⟨.next σ', S, H, rfl, x', J, W⟩
theorem assign_plain (K : G.Ok) {v : Expr} {x : Str} {np pos : Pos} {m : EM D} (he : Wp G fs A (RR G) H S s (eval v env) m) (V : EnvOk G H s.heap env sc σ) (hs : swapsWith v (some (.Name x np)) pos.line env = pure false)
    (hne : bnd m (fun d => bnd (optM (putName sc σ x d)) fun σ' => ret (Fl.next σ')) S ≠ .stuck) :
    wpAny G.M A (exec (.Assign [.Name x np] v pos) env) (Post G fs env sc H s.heap (bnd m (fun d => bnd (optM (putName sc σ x d)) fun σ' => ret (Fl.next σ')) S)) NoE s := by
  refine wpAny_Assign_Name (he.then K hne fun v d H1 S1 s1 e1 q1 n1 x1 I1 r1 => ?_) hs
  rw [q1]
  exact bind_ok I1 (V.step x1) r1 n1 fun s' p => p.trans x1.weaken
set_option tactic.hygienic true in
theorem assign_comp (K : G.Ok) (X : Cxt G fs A r) {elt iter : Expr} {scope : Scope} {x y : Str} {px py pos cpos : Pos} {ifs : List Expr} (hi : EvOk G fs A cf iter) (ht : TestsOk G fs A cf ifs) (he : EvOk G fs A cf elt) (I : Inv G fs H S s) (V : EnvOk G H s.heap env sc σ)
    (hs : swapsWith (.ListComp elt [⟨.Name x px, iter, ifs, 0⟩] scope cpos) (some (.Name y py)) pos.line env = pure true)
    (hne : bnd (ev G.C cf (.ListComp elt [⟨.Name x px, iter, ifs, 0⟩] scope cpos) sc σ) (fun d => bnd (optM (putName sc σ y d)) fun σ' => ret (Fl.next σ')) S ≠ .stuck) {E : Value -> Shared -> Prop} :
    wpAny G.M A (exec (.Assign [.Name y py] (.ListComp elt [⟨.Name x px, iter, ifs, 0⟩] scope cpos) pos) env)
      (Post G fs env sc H s.heap (bnd (ev G.C cf (.ListComp elt [⟨.Name x px, iter, ifs, 0⟩] scope cpos) sc σ) (fun d => bnd (optM (putName sc σ y d)) fun σ' => ret (Fl.next σ')) S)) E s := by
  rw [exec_Assign_Name_used _ _ _ _ hs]
  refine wpAny_bind (wpAny_standAt (wpAny_bind ?_))
  refine wpAny_bind (wpAny_mono (comp_run K X hi ht he (cpos := firstIterPos [⟨.Name x px, iter, ifs, 0⟩] cpos) (use := some (assign (.Name y py) env)) (E := E)
    (Q := fun _ s' => Post G fs env sc H s.heap (bnd (ev G.C cf (.ListComp elt [⟨.Name x px, iter, ifs, 0⟩] scope cpos) sc σ) (fun d => bnd (optM (putName sc σ y d)) fun σ' => ret (Fl.next σ')) S) .next s')
    I V (bnd_inv hne) fun D C s1 H1 S1 s' d S2 H2 m x1 I1 hC he x2 I2 r2 hn => ?_) (fun _ _ p => wpAny_pure (wpAny_pure p)) fun _ _ p => p)
  rw [bnd_at he] at hne
  show wpAny G.M A (assign (.Name y py) env (.ref D)) _ _ _
  have V1 := V.step x1
  have lowL : env.locals < s1.heap.objs.size := V1.lt
  have cellLt : ∀ p ∈ env.cells, p.2 < s1.heap.objs.size := fun p hp => I1.ltF (V1.cin p hp)
  have nC : ∀ b ∈ xs env, b ≠ C := by
    rintro b hb rfl
    rcases List.mem_cons.mp hb with q | q
    · rw [<- q] at lowL; exact absurd lowL (Nat.not_lt.mpr hC)
    · refine ob12 (List.mem_map.mp q) fun p hp er1 => ?_; subst er1
      exact absurd (cellLt p hp) (Nat.not_lt.mpr hC)
  have V1' := V1.more (ns := [C]) (fun _ _ e => e) (by intro b hb; simp only [List.mem_singleton] at hb; subst hb; exact hC)
  have V2 := V1'.stepX x2 ⟨by simpa using nC _ (List.mem_cons_self ..), fun y i c q e => by simpa using nC _ (List.mem_cons_of_mem _ (lookup_mem e))⟩
  have inC : C ∈ H2.fr := by rw [x2.fr]; simp
  refine wpAny_assign_Name ?_
  cases hp : putName sc σ y d with
  | none => rw [hp] at hne; exact absurd rfl hne
  | some σ' =>
    refine put_ok I2 V2 r2 hp fun h3 tk x3 I3 V3 => ?_
    refine mk12 m (Ns.upto hn fun o q => (x3.keepF C o inC (fun z => nC C z rfl) q).imp fun _ z => z.1) (fun h'' hs' => ?_)
    obtain ⟨y1, y2, y3⟩ := leave_one (X := C :: xs env) (Y := xs env) (s' := { s' with heap := h3, toks := tk }) I1 hC (fun b hb => (List.mem_cons.mp hb).imp (fun q => by simp [q]) fun q => q)
      ((x2.mono (by simp)).trans (x3.mono fun b hb => List.mem_cons_of_mem _ hb)) I3 hs'
    have hf : ∀ b ∈ H1.fr, b ∈ H2.fr := fun b hb => by rw [x2.fr]; exact List.mem_append_right _ hb
    have W := V3.less (fr := H1.fr) (h' := h'') hf (fun b o q e => (hs'.2 b (by
      rintro rfl
      rcases q with q | q
      · exact q inC
      · exact absurd (I1.ltF q) (Nat.not_lt.mpr hC))).trans e) V1.inF V1.cin
    rw [bnd_at he, hp]
    exact mk34 (.next σ') S2 _ rfl (x1.weaken.trans y1) y2 W
theorem comp_inv {C : Cfg} {v : Expr} (h : ¬ notComp v = true) (hne : ev C cf v sc σ S ≠ .stuck) : ∃ elt gens scope pos, v = .ListComp elt gens scope pos := by
  cases v with
  | ListComp elt gens scope pos => exact mk41 _ _ _ _ rfl
  | SetComp => exact absurd rfl hne
  | DictComp => exact absurd rfl hne
  | _ => exact absurd rfl h
theorem assignName_arm (K : G.Ok) (X : Cxt G fs A r) (hcf : CfOk G cf r) {v : Expr} {x : Str} {np pos : Pos} : SOk G fs A cf (.Assign [.Name x np] v pos) := by
  constructor
  intro H S s env sc σ F0 I V
  have q : ex G.C cf (.Assign [.Name x np] v pos) sc σ = bnd (ev G.C cf v sc σ) fun d => bnd (optM (putName sc σ x d)) fun σ' => ret (.next σ') := rfl
  rw [q]
  intro hne
  have he := fun {H} {S} {s} {env} {sc} {σ} (I : Inv G fs H S s) (V : EnvOk G H s.heap env sc σ) => (e_all K X hcf v).ev I V
  by_cases hc : notComp v = true
  · exact assign_plain K (he I V) V (swaps_no hc) hne
  · refine ob41 (comp_inv hc (bnd_inv hne)) fun elt gens scope cpos er1 => ?_; subst er1
    have hsw : ∃ b, swapsWith (.ListComp elt gens scope cpos) (some (.Name x np)) pos.line env = pure b := mk11 _ rfl
    refine ob11 hsw fun b hsw => ?_
    cases b with
    | false => exact assign_plain K (he I V) V hsw hne
    | true =>
      refine ob41 (gens_inv (bnd_inv hne)) fun z pz iter ifs er1 => ?_; subst er1
      exact assign_comp K X (e_all K X hcf iter).ev (l_all K X hcf ifs).tests (e_all K X hcf elt).ev I V hsw hne
end
end Mine
end

section
namespace Mine
open PySem
section
variable {prog : Program} {w : World} {A : Around} {E : Value -> Shared -> Prop} {s : Shared}
theorem draw_list {it t : Addr} {items : Array Value} (hne : t ≠ it) : ∀ (n i : Nat) (s : Shared) (Q : List Value -> Shared -> Prop), s.heap.IsListIter it t i -> s.heap.IsList t items -> i + n <= items.size ->
    (∀ h', h'.IsListIter it t (i + n) -> Heap.SameBut it s.heap h' -> Q ((items.toList.drop i).take n) { s with heap := h' }) -> wpAny (model prog w) A (draw (.ref it) n) Q E s
  | 0, i, s, Q, hit, _, _, hQ => by
    show wpAny _ _ (pure []) Q E s
    exact wpAny_pure (by simpa using hQ s.heap hit (Heap.SameBut.refl ..))
  | n + 1, i, s, Q, hit, ht, hle, hQ => by
    have hlt : i < items.size := by lia
    show wpAny _ _ (pyNext (.ref it) >>= _) Q E s
    refine wpAny_bind (wpAny_pyNext_list_item hit ht (x := items[i]) (by simp [hlt]) fun h₁ hit₁ hs₁ => ?_)
    refine wpAny_bind (wpAny_holding (draw_list hne n (i + 1) _ _ hit₁ (ht.extBut hs₁.extBut hne) (by lia) fun h₂ hit₂ hs₂ => wpAny_pure ?_))
    have hd : items.toList.drop i = items[i] :: items.toList.drop (i + 1) := by simp [List.drop_eq_getElem_cons, hlt]
    have := hQ h₂ (by rw [show i + (n + 1) = i + 1 + n by lia]; exact hit₂) (hs₁.trans hs₂)
    rw [hd, List.take_succ_cons] at this
    exact this
theorem assign_list {env : Env} {elts : List Expr} {x1} {pos : Pos} {t : Addr} {items : Array Value} {Q : Unit -> Shared -> Prop} (hh : A.handled = none) (ht : s.heap.IsList t items)
    (hn : (assignEach elts env).length = items.size) (hstar : (assignEach elts env).findIdx? (·.1) = none)
    (h : ∀ h', Heap.ExtBut s.heap.objs.size s.heap h' -> wpAny (model prog w) A (assignInOrder ((assignEach elts env).map (·.2)) items.toList) Q E { s with heap := h' }) :
    wpAny (model prog w) A (assign (.Tuple elts x1 pos) env (.ref t)) Q E s := by
  rw [arm_assign_Tuple]
  refine wpAny_bind (wpAny_standAt ?_)
  unfold unpack
  rw [hn, hstar]
  refine wpAny_bind (wpAny_holding ?_)
  have hlt : t ≠ s.heap.objs.size := by refine ob12 ht fun o ho _ => ?_; clear ht; exact Nat.ne_of_lt (Heap.lt_size ho)
  unfold unpackItems
  refine wpAny_bind ?_
  · unfold notIterableAtAll
    refine wpAny_bind (wpAny_specialOf ht.typeIs F.slot_list_iter.lookup ?_)
    refine wpAny_pure ?_
    simp only [Bool.false_eq_true, if_false]
    refine wpAny_bind (wpAny_holding (wpAny_pyIter_list ht ?_))
    refine wpAny_bind (wpAny_holding (draw_list hlt items.size 0 _ _ ⟨_, Heap.get?_push_size _ rfl, rfl, rfl⟩ (ht.push _) (by lia) fun h₁ hit₁ hs₁ => ?_))
    have hall : List.take items.size (List.drop 0 items.toList) = items.toList := by
      rw [List.drop_zero]; exact List.take_of_length_le (by simp)
    rw [hall]
    rw [if_neg (by simp)]
    have ht₁ : h₁.IsList t items := (ht.push _).extBut hs₁.extBut hlt
    refine wpAny_bind (wpAny_holding (wpAny_pyNext_list_end hh hit₁ ht₁ (by simp) fun h₂ he₂ => ?_))
    simp only [Option.isSome_none, Bool.false_eq_true, if_false]
    refine wpAny_pure (h h₂ fun b o hb e => he₂ b o hb (hs₁.extBut b o hb (Heap.get?_push_of_some _ e)))
end
end Mine
end

section
namespace Mine
open PySem
section
variable {G : Glo} {fs : List Env} {A : Around} {cf : Str -> List D -> EM D} {r : Nat} {H : Hid} {S : Store} {s : Shared} {env : Env} {sc : Scope} {σ : Sg}
theorem namesOf_cons {e : Expr} {es : List Expr} {l : List Str} (h : namesOf (e :: es) = some l) : ∃ x p ys, e = .Name x p /\ namesOf es = some ys /\ l = x :: ys := by
  have h' : ((nameE e).bind fun x => (namesOf es).map (x :: ·)) = some l := h
  cases hx : nameE e with
  | none => rw [hx] at h'; cases h'
  | some x =>
    rw [hx] at h'
    cases hy : namesOf es with
    | none => rw [hy] at h'; cases h'
    | some ys =>
      rw [hy] at h'; cases h'
      refine ob11 (nameE_inv hx) fun p e => ?_
      exact mk33 x p ys e rfl rfl
theorem putAll_cons {x : Str} {ys : List Str} {ds : List D} {σ σ' : Sg} (h : putAll sc (x :: ys) ds σ = some σ') : ∃ d r σ1, ds = d :: r /\ putName sc σ x d = some σ1 /\ putAll sc ys r σ1 = some σ' := by
  cases ds with
  | nil => cases h
  | cons d r =>
    have h' : (putName sc σ x d).bind (putAll sc ys r) = some σ' := h
    cases hp : putName sc σ x d with
    | none => rw [hp] at h'; cases h'
    | some σ1 => rw [hp] at h'; exact mk33 d r σ1 rfl hp h'
theorem putAll_nil {ds : List D} {σ σ' : Sg} (h : putAll sc [] ds σ = some σ') : ds = [] /\ σ' = σ := by
  cases ds with
  | nil => cases h; exact ⟨rfl, rfl⟩
  | cons d r => cases h
theorem putAll_ok (es : List Expr) : ∀ {xs' : List Str} {vs : List Value} {ds : List D} {σ σ' : Sg} {H : Hid} {S : Store} {s : Shared}, Inv G fs H S s -> EnvOk G H s.heap env sc σ -> RdAll G.P H s.heap vs ds -> namesOf es = some xs' -> putAll sc xs' ds σ = some σ' ->
    ∀ {E : Value -> Shared -> Prop}, wpAny G.M A (assignInOrder ((assignEach es env).map (·.2)) vs) (fun _ s' => Ext (xs env) H s.heap H s'.heap /\ Inv G fs H S s' /\ EnvOk G H s'.heap env sc σ') E s := by
  induction es with
  | nil =>
    intro xs' vs ds σ σ' H S s I V r hn hp E
    cases hn
    refine ob02 (putAll_nil hp) fun er1 er2 => ?_; subst er1; subst er2
    cases r
    exact PyProof.Rows.assignInOrder_nil ⟨Ext.refl, I, V⟩
  | cons e es ih =>
    intro xs' vs ds σ σ' H S s I V r hn hp E
    refine ob33 (namesOf_cons hn) fun x p ys er1 hes er2 => ?_; subst er1; subst er2
    refine ob33 (putAll_cons hp) fun d ds σ1 er1 h1 h2 => ?_; subst er1
    cases r with | cons r1 r2 =>
    refine PyProof.Rows.assignInOrder_cons (t := assign (.Name x p) env) (wpAny_assign_Name (put_ok I V r1 h1 fun h' tk x' J W => ?_))
    exact wpAny_mono (ih J W (r2.step x') hes h2) (fun _ s' p => let ⟨a, b, c⟩ := p; ⟨x'.trans a, b, c⟩) fun _ _ p => p
theorem namesOf_len (es : List Expr) : ∀ {xs : List Str}, namesOf es = some xs -> es.length = xs.length /\ ∀ env : Env, (assignEach es env).length = xs.length /\ (assignEach es env).findIdx? (·.1) = none := by
  induction es with
  | nil => intro xs h; cases h; exact ⟨rfl, fun _ => ⟨rfl, rfl⟩⟩
  | cons e es ih =>
    intro xs h
    refine ob33 (namesOf_cons h) fun x p ys er1 hes er2 => ?_; subst er1; subst er2
    refine ob02 (ih hes) fun a b => ?_
    refine ⟨congrArg (· + 1) a, fun env => ?_⟩
    have q : assignEach (.Name x p :: es) env = (false, assign (.Name x p) env) :: assignEach es env := rfl
    rw [q]
    refine ⟨congrArg (· + 1) (b env).1, ?_⟩
    rw [List.findIdx?_cons, (b env).2]; rfl
theorem putAll_len (xs : List Str) : ∀ {ds : List D} {σ σ' : Sg}, putAll sc xs ds σ = some σ' -> xs.length = ds.length := by
  induction xs with
  | nil => intro ds σ σ' h; rw [(putAll_nil h).1]; rfl
  | cons x xs ih =>
    intro ds σ σ' h
    refine ob33 (putAll_cons h) fun d r σ1 er1 _ h2 => ?_; subst er1
    exact congrArg (· + 1) (ih h2)
theorem swap_no {es : List Expr} {k : Nat} {tp : Pos} {v : Expr} (hv : plainU v = true) (env : Env) : swappedStores [.Tuple es k tp] v env = pure none := by
  cases v <;> first | rfl | cases hv
theorem swapsT {es : List Expr} {k n : Nat} {tp : Pos} {v : Expr} (env : Env) : swapsWith v (some (.Tuple es k tp)) n env = pure false := by
  cases v <;> rfl
theorem seq_assign (X : Cxt G fs A r) {v : Value} {d : D} {ds : List D} (q : Rd G.P H s.heap v d) (hs : seqOf d = some ds) : ∃ vs : List Value, RdAll G.P H s.heap vs ds /\ ∀ {es : List Expr} {k : Nat} {tp : Pos} {env : Env} {Q : Unit -> Shared -> Prop} {E : Value -> Shared -> Prop}, (assignEach es env).length = vs.length -> (assignEach es env).findIdx? (·.1) = none ->
    (∀ h', (∀ b o, s.heap.get? b = some o -> h'.get? b = some o) -> wpAny G.M A (assignInOrder ((assignEach es env).map (·.2)) vs) Q E { s with heap := h' }) -> wpAny G.M A (assign (.Tuple es k tp) env v) Q E s := by
  unfold seqOf at hs
  split at hs
  · refine ob34 q.tup_inv fun a vs n er1 c _ r => ?_; subst er1
    cases hs
    exact mk12 vs.toList r (fun h1 h2 h => PyProof.Rows.assign_Tuple_tuple X.handled (Rd.isTup c) (h1.trans (Array.length_toList ..)) h2 fun h' hx => h h' fun b o e => hx b o (Nat.ne_of_lt (Heap.lt_size e)) e)
  · refine ob34 q.lst_inv fun a vs n er1 c _ r => ?_; subst er1
    cases hs
    exact mk12 vs.toList r (fun h1 h2 h => assign_list X.handled (Rd.isList c) (h1.trans (Array.length_toList ..)) h2 fun h' hx => h h' fun b o e => hx b o (Nat.ne_of_lt (Heap.lt_size e)) e)
  · cases hs
theorem assignTuple_arm (K : G.Ok) (X : Cxt G fs A r) (hcf : CfOk G cf r) {es : List Expr} {k : Nat} {tp pos : Pos} {v : Expr} : SOk G fs A cf (.Assign [.Tuple es k tp] v pos) := by
  constructor
  intro H S s env sc σ F0 I V
  have q : ex G.C cf (.Assign [.Tuple es k tp] v pos) sc σ = if plainU v then bnd (optM (namesOf es)) fun xs => bnd (ev G.C cf v sc σ) fun d => bnd (optM (seqOf d)) fun ds => bnd (optM (putAll sc xs ds σ)) fun σ' => ret (.next σ') else stk := rfl
  rw [q]
  intro hne
  by_cases hv : plainU v = true
  · rw [if_pos hv] at hne ⊢
    refine ob13 (opt_inv hne) fun ys hn e0 n0 => ?_
    rw [e0]
    refine PyProof.Rows.Assign_Tuple (((e_all K X hcf v).ev I V).then K n0 fun v d H1 S1 s1 e1 q1 n1 x1 I1 r1 => ?_) (show swapsWith v (some (.Tuple es k tp)) pos.line env = pure false from swapsT env) (swap_no hv env)
    rw [q1]
    refine ob13 (opt_inv n1) fun ds hd e2 n2 => ?_
    refine ob13 (opt_inv n2) fun σ' hp e3 _ => ?_
    rw [e2, e3]
    refine ob12 (seq_assign X r1 hd) fun vs a5 ha => ?_
    refine ob02 (namesOf_len _ hn) fun l1 l2 => ?_
    refine wpAny_size (ha ((l2 env).1.trans ((putAll_len _ hp).trans a5.length.symm)) (l2 env).2 fun h' hk => ?_)
    have J : Inv G fs H1 S1 { s1 with heap := h' } := I1.grow (tk := s1.toks) hk
    have W : EnvOk G H1 h' env sc σ := (V.step x1).more (ns := []) hk (by simp)
    have r' : RdAll G.P H1 h' vs ds := RdAll.ext (H := H1) (H' := H1) (fun b o z1 z2 e => ⟨z1, z2, hk b o e⟩) (fun _ _ e => e) a5
    refine wpAny_mono (putAll_ok _ (s := { s1 with heap := h' }) J W r' hn hp) (fun _ s' p hz => ?_) fun _ _ p => p
    refine ob03 p fun y1 y2 y3 => ?_; clear p
    exact mk34 (.next σ') S1 H1 rfl (x1.weaken.trans ⟨rfl, ⟨[], by simp, by simp⟩, fun b o z1 z2 e => y1.keep b o z1 z2 (hk b o e), fun b o z1 z2 e => y1.keepF b o z1 z2 (hk b o e), hz⟩) y2 y3
  · rw [if_neg hv] at hne; exact absurd rfl hne
theorem forL_cons {body : D -> Sg -> EM Fl} {d : D} {l : List D} {σ : Sg} : forL body (d :: l) σ = bnd (calm (body d σ)) fun f => match f with
    | .next σ' => forL body l σ'
    | .ret v => ret (.ret v) := rfl
structure FMid (G : Glo) (fs : List Env) (H : Hid) (h₁ : Heap) (env : Env) (sc : Scope) (body : D -> Sg -> EM Fl) (ds : List D) (I : Addr) (St : Nat -> Heap -> Prop) (res : Out Fl) (n : Nat) (s : Shared)
    (k : Nat) (H1 : Hid) (S1 : Store) (σ1 : Sg) : Prop where
  cnt : n + k = ds.length
  x : Ext (I :: xs env) ⟨H.ρ, [I] ++ H.fr⟩ h₁ H1 s.heap
  inv : Inv G fs H1 S1 s
  env : EnvOk G H1 s.heap env sc σ1
  st : St k s.heap
  ne : forL body (ds.drop k) σ1 S1 ≠ .stuck
  rest : res = forL body (ds.drop k) σ1 S1
theorem for_arm (K : G.Ok) (X : Cxt G fs A r) {x : Str} {px pos : Pos} {iter : Expr} {body : List Stmt} (hi : EvOk G fs A cf iter) (hb : BOk G fs A cf body) : SOk G fs A cf (.For (.Name x px) iter body [] pos) := by
  constructor
  intro H S s env sc σ F0 I V
  have q : ex G.C cf (.For (.Name x px) iter body [] pos) sc σ = bnd (ev G.C cf iter sc σ) fun it => bnd (optM (itemsOf it)) fun ds =>
        forL (fun d σ => bnd (optM (putName sc σ x d)) fun σ' => exs G.C cf body sc σ') ds σ := rfl
  rw [q]
  intro hne
  refine wpAny_For ((hi I V).then K hne fun v it H1 S1 s1 e1 q1 n1 x1 I1 r1 => ?_) (folded hne env)
  rw [q1]
  cases hds : itemsOf it with
  | none => rw [hds] at n1; exact absurd rfl n1
  | some ds =>
    have q2 : ∀ f : List D -> EM Fl, bnd (optM (some ds)) f S1 = f ds S1 := fun f => rfl
    rw [hds, q2] at n1
    rw [q2]
    generalize hbd : (fun (d : D) (σ : Sg) => bnd (optM (putName sc σ x d)) fun σ' => exs G.C cf body sc σ') = bd at n1 ⊢
    have hbd' : ∀ d σ, bd d σ = bnd (optM (putName sc σ x d)) fun σ' => exs G.C cf body sc σ' := fun d σ => hbd ▸ rfl
    clear hbd
    generalize hres : forL bd ds σ S1 = res at n1 ⊢
    refine iter_ok r1 hds fun o fp P St T => ?_
    generalize hI : s1.heap.objs.size = Ia at T ⊢
    generalize hH : s1.heap.push o = h0 at T ⊢
    have V1 := V.step x1
    have hh := X.handled
    have old : ∀ b o', s1.heap.get? b = some o' -> h0.get? b = some o' := fun b o' e => hH ▸ Heap.get?_push_of_some _ e
    have szl : s1.heap.objs.size <= h0.objs.size := hH ▸ size_push_le _ _
    have ltF : ∀ b ∈ H1.fr, b < Ia := fun b hb => hI ▸ I1.ltF hb
    have nsNew : ∀ b ∈ [Ia], s1.heap.objs.size <= b := fun b hb => by rw [hI, List.mem_singleton.mp hb]; exact Nat.le_refl _
    have I2 : Inv G fs ⟨H1.ρ, [Ia] ++ H1.fr⟩ S1 { s1 with heap := h0 } := I1.more (tk := s1.toks) old nsNew fun b hb => by
      exact ob12 (T.live _ _ T.start) fun o' e _ => mk11 o' ((List.mem_singleton.mp hb).symm ▸ e)
    have V2 := V1.more (ns := [Ia]) old nsNew
    have fsI : ∀ env ∈ fs, env.frame ≠ some Ia := hI ▸ I1.noFrame I1.freshF
    have lowX : ∀ b ∈ xs env, b < Ia := by
      intro b hb
      rcases List.mem_cons.mp hb with q | q
      · rw [q, <- hI]; exact V1.lt
      · refine ob12 (List.mem_map.mp q) fun p hp er1 => ?_; subst er1
        exact ltF _ (V1.cin p hp)
    have nI : ∀ b ∈ xs env, b ≠ Ia := fun b hb => Nat.ne_of_lt (lowX b hb)
    have leave : ∀ {H3 : Hid} {S3 : Store} {s3 : Shared} {h' : Heap} {tk : Nat} {fl : Fl} {f : Flow}, Ext (Ia :: xs env) ⟨H1.ρ, [Ia] ++ H1.fr⟩ h0 H3 s3.heap -> Inv G fs H3 S3 s3 -> FlR G env sc H3 s3.heap f fl ->
        (∀ b o, b ≠ Ia -> s3.heap.get? b = some o -> h'.get? b = some o) -> s3.heap.objs.size <= h'.objs.size ->
        res = .ok fl S3 ->
        Post G fs env sc H s.heap (res) f { s3 with heap := h', toks := tk } := by
      intro H3 S3 s3 h' tk fl f y J R hk hz hres
      have inI : Ia ∈ H3.fr := by rw [y.fr]; simp
      have hf : ∀ b ∈ H1.fr, b ∈ H3.fr := fun b hb => by rw [y.fr]; exact List.mem_append_right _ hb
      have hk' : ∀ b o, (b ∉ H3.fr \/ b ∈ H1.fr) -> s3.heap.get? b = some o -> h'.get? b = some o := fun b o q e => hk b o (fun e0 => q.elim (fun q => q (e0 ▸ inI)) fun q => absurd (e0 ▸ ltF _ q) (Nat.lt_irrefl _)) e
      refine mk34 fl S3 ⟨H3.ρ, H1.fr⟩ hres (x1.weaken.trans (Ext.around' (ns := [Ia]) old szl nsNew (fun b hb => (List.mem_cons.mp hb).imp (fun q => by simp [q]) fun q => q) y (fun b o hb e => hk b o (by simpa using hb) e) hz)) (J.leave hf I1.frames hk') ?_
      cases fl with
      | next σ3 =>
        cases f with
        | next => exact EnvOk.less R hf hk' V1.inF V1.cin
        | _ => exact R.elim
      | ret d =>
        cases f with
        | ret v => exact Rd.ext (H := H3) (H' := ⟨H3.ρ, H1.fr⟩) (fun b o z1 z2 e => ⟨z1, fun z => z2 (hf b z), hk' b o (.inl z2) e⟩) (fun _ _ e => e) R
        | _ => exact R.elim
    refine codeAny_forLoop (fun n s' => ∃ k H2 S2 σ2, FMid G fs H1 h0 env sc bd ds Ia St
      (res) n s' k H2 S2 σ2) ?turn ds.length ?start
    case start => exact mk41 0 _ S1 σ ⟨rfl, Ext.refl, I2, V2, T.start, fun z => n1 (hres.symm.trans z), hres.symm⟩
    case turn =>
      rintro n s₅ ⟨k, H2, S2, σ2, M⟩
      have hfr : H2.fr = [Ia] ++ H1.fr := M.x.fr
      have inI : Ia ∈ H2.fr := by rw [hfr]; simp
      cases n with
      | zero =>
        have hk : k = ds.length := (Nat.zero_add k).symm.trans M.cnt
        refine wpAny_size ((T.walks A hh).done s₅ _ _ (hk ▸ M.st) fun h' tk keep hz => ?_)
        have keep' : ∀ b o, b ≠ Ia -> s₅.heap.get? b = some o -> h'.get? b = some o := fun b o hb e => keep b o (by simpa using hb) e
        refine wpAny_execs_nil (leave (fl := .next σ2) M.x M.inv M.env keep' hz ?_)
        rw [M.rest, hk, List.drop_length]; rfl
      | succ n =>
        have hk : k < ds.length := M.cnt ▸ Nat.lt_add_of_pos_left (Nat.succ_pos n)
        refine wpAny_size ((T.walks A hh).item k s₅ _ _ hk M.st fun v h' tk p st' keep hz => ?_)
        have keep' : ∀ b o, b ≠ Ia -> s₅.heap.get? b = some o -> h'.get? b = some o := fun b o hb e => keep b o (by simpa using hb) e
        refine ob12 (T.item k v p) fun d hd rv => ?_
        have hdrop : ds.drop k = d :: ds.drop (k + 1) := by
          rw [List.drop_eq_getElem_cons hk, Option.some.inj ((List.getElem?_eq_getElem hk).symm.trans hd)]
        refine ob02 (M.inv.setF (tk := tk) inI keep' hz (let ⟨o, e, _⟩ := T.live _ _ st'; ⟨o, e, .inr fsI⟩)) fun J6 xI => ?_
        have sub1 : ∀ b ∈ [Ia], b ∈ Ia :: xs env := by simp
        have x6 := M.x.trans (xI.mono sub1)
        have V6 := M.env.stepX xI ⟨by simpa using nI _ (List.mem_cons_self ..), fun y i c q e => by simpa using nI _ (List.mem_cons_of_mem _ (lookup_mem e))⟩
        have rv6 := Rd.into old nsNew x6 rv
        have ne1 := M.ne
        have res1 := M.rest
        rw [hdrop, forL_cons] at ne1 res1
        have ne2 : calm (bd d σ2) S2 ≠ .stuck := bnd_inv ne1
        cases hp : putName sc σ2 x d with
        | none => exact absurd (by show calm (bd d σ2) S2 = _; rw [hbd', hp]; rfl) ne2
        | some σ3 =>
          refine wpAny_assign_Name (put_ok J6 V6 rv6 hp fun h7 tk7 x7 J7 V7 => ?_)
          have q3 : bd d σ2 S2 = exs G.C cf body sc σ3 S2 := by rw [hbd', hp]; rfl
          have ne3 : exs G.C cf body sc σ3 S2 ≠ .stuck := fun z => ne2 (q3.trans z)
          refine wpAny_mono (hb.go F0 J7 V7 ne3) (fun f s8 p => ?_) fun _ _ p => False.elim p
          refine ob34 p fun fl S8 H8 e8 x8 J8 R8 => ?_; clear p
          rw [bnd_at (q3.trans e8)] at ne1 res1
          have y8 : Ext (Ia :: xs env) ⟨H1.ρ, [Ia] ++ H1.fr⟩ h0 H8 s8.heap := (x6.trans (x7.mono fun b hb => List.mem_cons_of_mem _ hb)).trans (x8.mono fun b hb => List.mem_cons_of_mem _ hb)
          cases fl with
          | next σ8 =>
            cases f with
            | next =>
              refine ⟨n, Nat.lt_succ_self _, k + 1, H8, S8, σ8, ⟨(Nat.succ_add_eq_add_succ n k).symm.trans M.cnt, y8, J8, R8, ?_, ne1, res1⟩⟩
              have z : Ext (xs env) H2 h' H8 s8.heap := x7.trans x8
              refine (T.walks A hh).frame (k + 1) _ _ st' fun b hb' o' e => ?_
              rcases T.fp b hb' with eb | ⟨b1, b2, o'', b3⟩
              · rw [eb] at e ⊢
                exact ob12 (T.live _ _ st') fun o'' e' hp' => z.plain inI (fun q => nI _ q rfl) (Option.some.inj (e'.symm.trans e) ▸ hp') e
              · have hlt := Heap.lt_size b3
                refine z.keep b o' (M.x.notin b1 (Nat.lt_of_lt_of_le hlt szl)) (fun q => ?_) e
                rw [hfr] at q
                rcases List.mem_append.mp q with q | q
                · rw [hI, List.mem_singleton.mp q] at hlt; exact absurd hlt (Nat.lt_irrefl _)
                · exact b2 q
            | _ => exact R8.elim
          | ret dv =>
            cases f with
            | ret rv' => exact leave (fl := .ret dv) (tk := s8.toks) (h' := s8.heap) y8 J8 R8 (fun _ _ _ e => e) (Nat.le_refl _) res1
            | _ => exact R8.elim
theorem whileL_succ {test : Sg -> EM Bool} {body : Sg -> EM Fl} {n : Nat} {σ : Sg} : whileL test body (n + 1) σ = bnd (test σ) fun b => if b then bnd (calm (body σ)) fun f => (match f with
    | .next σ' => whileL test body n σ'
    | .ret v => ret (.ret v)) else ret (.next σ) := rfl
theorem while_arm (K : G.Ok) {t : Expr} {pos : Pos} {body : List Stmt} (ht : TOk G fs A cf t) (hb : BOk G fs A cf body) : SOk G fs A cf (.While t body [] pos) := by
  constructor
  intro H S s env sc σ F0 I V
  have q : ex G.C cf (.While t body [] pos) sc σ = whileL (fun σ => evT G.C cf t sc σ (ev G.C cf t sc σ)) (fun σ => exs G.C cf body sc σ) G.C.turns σ := rfl
  rw [q]
  intro hne
  refine wpAny_While ?_
  refine codeAny_whileLoop (fun n s' => ∃ H1 S1 σ1, Ext (xs env) H s.heap H1 s'.heap /\ Inv G fs H1 S1 s' /\ EnvOk G H1 s'.heap env sc σ1 /\
    whileL (fun σ => evT G.C cf t sc σ (ev G.C cf t sc σ)) (fun σ => exs G.C cf body sc σ) n σ1 S1 ≠ .stuck /\
    whileL (fun σ => evT G.C cf t sc σ (ev G.C cf t sc σ)) (fun σ => exs G.C cf body sc σ) G.C.turns σ S = whileL (fun σ => evT G.C cf t sc σ (ev G.C cf t sc σ)) (fun σ => exs G.C cf body sc σ) n σ1 S1) ?turn G.C.turns ⟨H, S, σ, Ext.refl, I, V, hne, rfl⟩
  case turn =>
    rintro n s1 ⟨H1, S1, σ1, x1, I1, V1, ne1, res1⟩
    cases n with
    | zero => exact absurd rfl ne1
    | succ n =>
      rw [whileL_succ] at ne1 res1
      refine (ht I1 V1).then K ne1 fun b b' H2 S2 s2 e2 q2 n2 x2 I2 r2 => ?_
      rw [q2] at res1
      cases r2
      have x12 := x1.trans x2.weaken
      cases b with
      | false => exact wpAny_execs_nil ⟨.next σ1, S2, H2, res1, x12, I2, V1.step x2⟩
      | true =>
        rw [if_pos rfl] at n2 res1
        have n3 := bnd_inv n2
        refine wpAny_mono (hb.go F0 I2 (V1.step x2) n3) (fun f s3 p => ?_) fun _ _ p => False.elim p
        refine ob34 p fun fl S3 H3 e3 x3 I3 R3 => ?_; clear p
        rw [bnd_at e3] at n2 res1
        cases fl with
        | next σ3 =>
          cases f with
          | next => exact ⟨n, Nat.lt_succ_self _, H3, S3, σ3, x12.trans x3, I3, R3, n2, res1⟩
          | _ => exact R3.elim
        | ret dv =>
          cases f with
          | ret rv => exact mk34 (.ret dv) S3 H3 res1 (x12.trans x3) I3 R3
          | _ => exact R3.elim
end
end Mine
end

section
namespace Mine
open PySem
section
variable {G : Glo} {fs : List Env} {A : Around} {H : Hid} {S : Store} {s : Shared}
theorem storeSet2 {k j : Nat} {a b : Addr} {h' : Heap} {o p q : SObj} (I : Inv G fs H S s) (ha : H.ρ[k]? = some a) (hb : H.ρ[j]? = some b) (hk : S[k]? = some o) (hj : S[j]? = some p) (hkj : k ≠ j)
    (hs : ∀ c ob, c ≠ a -> c ≠ b -> s.heap.get? c = some ob -> h'.get? c = some ob) (hz : s.heap.objs.size <= h'.objs.size)
    (ra : Ext [] H s.heap H h' -> SAt G H h' a o) (rb : Ext [] H s.heap H h' -> SAt G H h' b q) {tk : Nat} : Ext [] H s.heap H h' /\ Inv G fs H (setS S j q) { s with heap := h', toks := tk } := by
  have am : a ∈ H.ρ := List.mem_of_getElem? ha
  have bm : b ∈ H.ρ := List.mem_of_getElem? hb
  have out : ∀ c ob, c ∉ H.ρ -> s.heap.get? c = some ob -> h'.get? c = some ob := fun c ob hc e => hs c ob (fun z => hc (z ▸ am)) (fun z => hc (z ▸ bm)) e
  have x : Ext [] H s.heap H h' := ⟨rfl, ⟨[], by simp, by simp⟩, fun c ob h1 _ e => out c ob h1 e, fun c ob h2 _ e => ⟨ob.slots, out c ob (fun z => I.off c z h2) e, fun _ => rfl⟩, hz⟩
  refine ⟨x, ⟨fun c ob e => out c ob (fun z => ?_) (I.stays c ob e), I.newS, I.newF, I.off, fun c hc => ?_, I.nodup, by simp [setS, I.len], fun n o' e => ?_, ?_, I.gens, I.os⟩⟩
  · rw [I.newS c z] at e; cases e
  · refine ob11 (I.liveF c hc) fun ob e => ?_
    exact mk11 ob (out c ob (fun z => I.off c z hc) e)
  · by_cases hnj : n = j
    · subst hnj
      rw [setS, set_same hj] at e
      cases e
      exact mk12 b hb (rb x)
    · rw [setS, List.getElem?_set_ne (Ne.symm hnj)] at e
      by_cases hnk : n = k
      · subst hnk
        rw [hk] at e; cases e
        exact mk12 a ha (ra x)
      · refine ob12 (I.objs n o' e) fun c e1 e2 => ?_
        exact mk12 c e1 (e2.step x fun ob z => hs c ob (fun y => hnk (nodup_inj I.nodup e1 (y ▸ ha))) (fun y => hnj (nodup_inj I.nodup e1 (y ▸ hb))) z)
  · exact I.fa.step (fun _ z => z) fun c ob hc e => mk12 ob (out c ob (fun z => I.off c z hc) e) (fun z => z)
end
end Mine
end

section
namespace Mine
open PySem
section
variable {G : Glo} {fs : List Env} {A : Around} {H : Hid} {S : Store} {s : Shared} {c : Str} {C N : Addr} {mN : Str -> Option Value}
theorem lookup_within {m : Str -> Option Value} : ∀ {ns : List (Str × D)}, (∀ x, ns.lookup x = none -> m x = none) -> Within m (ns.map (·.1)) := by
  intro ns h y hy
  have h1 : ns.lookup y ≠ none := fun e => hy (h y e)
  clear h hy
  induction ns with
  | nil => exact absurd rfl h1
  | cons p ns ih =>
    rw [List.lookup_cons] at h1
    rw [List.map_cons]
    by_cases hx : (y == p.1) = true
    · rw [beq_iff_eq.mp hx]; exact List.mem_cons_self ..
    · have hx' : (y == p.1) = false := by simpa using hx
      rw [hx'] at h1
      exact List.mem_cons_of_mem _ (ih h1)
theorem att_store (F : ClsOk G c C N mN) {x : Str} (hatt : G.C.att c x = true) {k dn : Nat} {ns : List (Str × D)} {d : D} {v u : Value} (I : Inv G fs H S s) (r : Rd G.P H s.heap v (.loc k)) (h1 : S[k]? = some (.inst c dn)) (h2 : S[dn]? = some (.ns ns)) (hz : ns.length < 100) (ru : Rd G.P H s.heap u d)
    {Q : Unit -> Shared -> Prop} {E : Value -> Shared -> Prop} (hQ : ∀ s', Ext [] H s.heap H s'.heap -> Inv G fs H (setS S dn (.ns ((x, d) :: ns))) s' -> Q () s') : wpAny G.M A (setAttr v x u) Q E s := by
  obtain ⟨nm, q, bs, sn, sub, col, dd, k0, k1, k2, k3, k5, hC⟩ := F.at'.obj
  have hi := inst_at I F.mg r h1 h2
  cases r with | @loc _ a ha =>
  refine ob23 hi fun a' mA ea hI hm => ?_; clear hi
  cases ea
  refine ob02 (F.att x hatt) fun a1 a2 => ?_
  obtain ⟨a', e1, C', dx, o, q1, q2, q3, q4, q5, q6, q7⟩ := I.objs k _ h1
  rw [ha] at e1; cases e1
  rw [F.mg] at q1; cases q1
  have haC : a ≠ C := fun e => by
    have := I.newS a (List.mem_of_getElem? ha)
    rw [e, hC] at this; cases this
  have hkd : k ≠ dn := fun e => by rw [e, q2] at ha; cases ha; exact q3 rfl
  obtain ⟨hp, g, dr, tk, os⟩ := s
  refine wpAny_size (store_attr PySem.F.store_object (I.stays C _ hC) (F.at'.ns.keeps I.stays) F.q3 a1 a2 haC hI (fun h' tk' hI' hk' hsame => ?_) (lookup_within fun y e => (hm y).2 e) ?_)
  · intro hs
    refine ob15 (hsame o q4) fun o1 g1 g2 g3 g4 g5 => ?_
    have hns : h'.Ns1 dx (fun y => if y = x then some u else mA y) := by
      refine ob14 hI' fun o2 z1 z2 z3 z4 => ?_; clear hI'
      rw [g1] at z1; cases z1
      rcases z4 with ⟨z, _⟩ | ⟨d2, z, _, z5⟩
      · rw [g5 dx q6] at z; cases z
      · rw [g5 dx q6] at z; cases z; exact z5
    have hSA : Ext [] H hp H h' -> SAt G H h' dx (.ns ((x, d) :: ns)) := fun xx => by
      refine mk12 _ hns (fun y => ?_)
      by_cases hy : y = x
      · subst hy
        refine ⟨fun d' e => ?_, fun e => ?_⟩
        · have : d' = d := by simpa [List.lookup_cons] using e.symm
          rw [this]; exact mk12 u (by simp) (ru.step xx)
        · simp [List.lookup_cons] at e
      · have e0 : List.lookup y ((x, d) :: ns) = ns.lookup y := by rw [List.lookup_cons, beq_false_of_ne hy]
        rw [e0]
        refine ⟨fun d' e => ?_, fun e => ?_⟩
        · refine ob12 ((hm y).1 d' e) fun v' w1 w2 => ?_
          exact mk12 v' (by rw [if_neg hy]; exact w1) (w2.step xx)
        · rw [if_neg hy]; exact (hm y).2 e
    obtain ⟨xx, J⟩ := storeSet2 (tk := tk') I ha q2 h1 h2 hkd (h' := h') (q := .ns ((x, d) :: ns)) (fun b ob hb1 hb2 e => hk' b ob hb1 (fun o₀ d' e1 e2 => by
        have e1' : hp.get? a = some o₀ := e1
        rw [q4] at e1'; cases e1'
        rw [q6] at e2; cases e2; exact hb2) e) hs
      (fun xx => mk37 C dx o1 F.mg q2 q3 g1 (g2.trans q5) (g5 dx q6) (fun cd => by rw [g3]; exact q7 cd))
      hSA
    exact hQ _ xx J
  · rw [List.length_map]; exact Nat.le_trans (Nat.le_of_lt hz) (by decide)
end
end Mine
end

section
namespace Mine
open PySem
section
variable {G : Glo} {fs : List Env} {A : Around} {cf : Str -> List D -> EM D} {r : Nat} {H : Hid} {S : Store} {s : Shared} {env : Env} {sc : Scope} {σ : Sg}
theorem setItem_at {l : Addr} {vs : Array Value} {m : Nat} {k : Int} {t : Tok} {v : Value} {Q : Unit -> Shared -> Prop} {E : Value -> Shared -> Prop} (hl : s.heap.get? l = some (lstO vs m)) (h0 : 0 <= k) (hfit : k < 2 ^ 63) (hn : k < vs.size)
    (hQ : ∀ m' h', h'.get? l = some (lstO (vs.setIfInBounds k.toNat v) m') -> Heap.SameBut l s.heap h' -> Q () { s with heap := h' }) : wpAny G.M A (setItem (.ref l) (.int k t) v) Q E s := by
  have hL : s.heap.IsList l vs := ⟨_, hl, rfl, m, rfl⟩
  unfold setItem
  try with_reducible refine wpAny_holding ?_
  first | refine wpAny_bind (wpAny_pure ?_) | skip
  refine wpAny_bind (wpAny_sequenceKey hL.typeIs (by decide) ?_)
  refine wpAny_bind (wpAny_callSpecial?_slot (name := Str.ofString "__setitem__") hL.typeIs slot_list_setitem (wpAny_call_entry slot_list_setitem hL.typeIs entry_list_setitem ?_ (args_list_setitem _ _ _)))
  show wpAny _ _ (Builtin.List.listSubscript? (.int k t) >>= _) _ _ s
  refine wpAny_bind (wpAny_listSubscript_int (fitsIndex_of h0 hfit) ?_)
  clear hfit
  refine ob11 (Int.eq_ofNat_of_zero_le h0) fun j er1 => ?_; subst er1
  have hj : j < vs.size := by lia
  show wpAny _ _ ((seqItemAt l j >>= fun r => pure (r.map (j, ·))) >>= _) _ _ s
  refine wpAny_bind (wpAny_bind (wpAny_seqItemAt hl rfl (wpAny_pure ?_)))
  rw [Array.getElem?_eq_getElem hj]
  show wpAny _ _ (setSeqItemAt l j v >>= _) _ _ s
  refine wpAny_bind (wpAny_setSeqItemAt hl rfl ?_)
  have hg : ∃ m', (s.heap.update l (Obj.mapSeq (·.setIfInBounds j v))).get? l = some (lstO (vs.setIfInBounds j v) m') := mk11 _ (IsL.update hl fun xs => xs.setIfInBounds j v)
  refine ob11 hg fun m' hg => ?_
  first
    | exact wpAny_bind (wpAny_pure (wpAny_pure ⟨.none, rfl, wpAny_pure (hQ m' _ hg (Heap.SameBut.update ..))⟩))
    | exact wpAny_pure ⟨.none, rfl, wpAny_pure (hQ m' _ hg (Heap.SameBut.update ..))⟩
theorem RdAll.set {P : Params} {h : Heap} {v : Value} {d : D} (q : Rd P H h v d) {vs : List Value} {ds : List D} (r : RdAll P H h vs ds) : ∀ j : Nat, RdAll P H h (vs.set j v) (ds.set j d) :=
  RdAll.ind (M := fun vs ds => ∀ j : Nat, RdAll P H h (vs.set j v) (ds.set j d)) (fun _ => .nil) (fun a b i j => Nat.casesOn j (.cons q b) fun j => .cons a (i j)) r
set_option tactic.hygienic true in
theorem setItemM0_inv {a k d : D} (h : setItemM0 a k d S ≠ .stuck) : ∃ n j ds, a = .loc n /\ k = .int (j : Nat) /\ S[n]? = some (.list ds) /\ j < ds.length /\ setItemM0 a k d S = .ok () (setS S n (.list (ds.set j d))) := by
  unfold setItemM0 at h
  split at h
  · rename_i n
    split at h
    · rename_i i
      split at h
      · rename_i ds hS
        split at h
        · rename_i hc
          rw [Bool.and_eq_true, decide_eq_true_eq, decide_eq_true_eq] at hc
          refine ob11 (Int.eq_ofNat_of_zero_le hc.1) fun j er1 => ?_; subst er1
          refine mk35 n j ds rfl rfl hS (by lia) ?_
          unfold setItemM0
          dsimp only
          rw [hS]
          dsimp only
          rw [if_pos (by rw [Bool.and_eq_true, decide_eq_true_eq, decide_eq_true_eq]; exact hc)]
          rfl
        · exact absurd rfl h
      · exact absurd rfl h
    · exact absurd rfl h
  · exact absurd rfl h
set_option tactic.hygienic true in
theorem setTab_inv {a k d : D} {t : Bool × List (Kd × D)} (h : setTab a t k d S ≠ .stuck) : ∃ n kk, a = .loc n /\ tabKey t.1 k = some kk /\ t.2.length < 4000000 /\ setTab a t k d S = .ok () (setS S n (.tab t.1 (tabPut t.2 kk d))) := by
  unfold setTab at h
  split at h
  · rename_i n
    split at h
    · rename_i kk hk
      split at h
      · rename_i hz
        refine mk24 n kk rfl hk hz ?_
        unfold setTab
        dsimp only
        rw [hk]
        dsimp only
        rw [if_pos hz]
      · exact absurd rfl h
    · exact absurd rfl h
  · exact absurd rfl h
theorem Wp.into {α' α β : Type} {R : Hid -> Heap -> α' -> α -> Prop} {t : Sem α'} {m : EM α} {f : α -> EM β} {T : α' -> Shared -> Prop} {E : Value -> Shared -> Prop} (h1 : Wp G fs A R H S s t m) (hne : bnd m f S ≠ .stuck)
    (h2 : ∀ v a H1 S1 s1, m S = .ok a S1 -> Ext [] H s.heap H1 s1.heap -> Inv G fs H1 S1 s1 -> R H1 s1.heap v a -> f a S1 ≠ .stuck -> bnd m f S = f a S1 -> T v s1) : wpAny G.M A t T E s :=
  wpAny_mono (h1.seq hne h2) (fun _ _ p => p) fun _ _ p => p.elim
theorem assignSub_arm (K : G.Ok) (X : Cxt G fs A r) (hcf : CfOk G cf r) {o i v : Expr} {p pos : Pos} : SOk G fs A cf (.Assign [.Subscript o i p] v pos) := by
  constructor
  intro H S s env sc σ F0 I V
  have q : ex G.C cf (.Assign [.Subscript o i p] v pos) sc σ = if notComp v && notSlice i then bnd (ev G.C cf v sc σ) fun d => bnd (ev G.C cf o sc σ) fun a => bnd (ev G.C cf i sc σ) fun k => bnd (setItemM a k d) fun _ => ret (.next σ) else stk := rfl
  rw [q]
  intro hne
  by_cases hc : (notComp v && notSlice i) = true
  · rw [if_pos hc] at hne ⊢
    refine wpAny_Assign_Subscript (Wp.into ((e_all K X hcf v).ev I V) hne fun v1 d H1 S1 s1 e1 x1 I1 r1 n1 q1 => ?_) (swaps_no (Bool.and_eq_true_iff.mp hc).1)
    rw [q1]
    refine Wp.into ((e_all K X hcf o).ev I1 (V.step x1)) n1 fun v2 a H2 S2 s2 e2 x2 I2 r2 n2 q2 => ?_
    rw [q2]
    refine Wp.into ((e_all K X hcf i).ev I2 ((V.step x1).step x2)) n2 fun v3 k H3 S3 s3 e3 x3 I3 r3 n3 q3 => ?_
    rw [q3]
    have r2' := r2.step x3
    have r1' := (r1.step x2).step x3
    have n4 := bnd_inv n3
    unfold setItemM at n4
    cases ht : tabOf S3 a with
    | some t =>
      rw [ht] at n4
      dsimp only at n4
      refine ob24 (setTab_inv n4) fun n kk er1 hk hz he => ?_; subst er1
      have he' : setItemM (.loc n) k d S3 = .ok () (setS S3 n (.tab t.1 (tabPut t.2 kk d))) := by unfold setItemM; rw [ht]; exact he
      rw [bnd_at he']
      refine ob25 (tab_at I3 r2' ht) fun n' y e0 hS er1 ha hT => ?_; subst er1
      cases e0
      refine tab_set (a := y) I3 hT r3 r1' (by have := X.units; lia) hk hz fun h' tk hs hSA => ?_
      refine ob02 (storeSetO (tk := tk) I3 ha hS hs hSA) fun x J => ?_
      exact mk34 (.next σ) _ H3 rfl (((x1.trans x2).trans (x3.trans x)).weaken) J ((((V.step x1).step x2).step x3).step x)
    | none =>
    rw [ht] at n4
    dsimp only at n4
    refine ob35 (setItemM0_inv n4) fun n j ds er1 er2 hS hj he0 => ?_; subst er1; subst er2
    have he : setItemM (.loc n) (.int (j : Nat)) d S3 = .ok () (setS S3 n (.list (ds.set j d))) := by unfold setItemM; rw [ht]; exact he0
    rw [bnd_at he]
    cases r2' with | loc ha =>
    cases r3 with | int _ t =>
    obtain ⟨a', e1', vs, m, g1, g2, g3⟩ := I3.objs n _ hS
    rw [ha] at e1'; cases e1'
    have l := g3.length
    rw [Array.length_toList] at l
    refine setItem_at g1 (Int.natCast_nonneg j) (by have := line63 g2; lia) (by lia) fun m' h' hg hs => ?_
    rw [Int.toNat_natCast] at hg
    refine ob02 (storeSet (tk := s3.toks) (vs := vs.setIfInBounds j v1) (ds := ds.set j d) I3 ha hS hs hg (by simpa using g2) (by simpa using RdAll.set r1' g3 j)) fun x J => ?_
    exact mk34 (.next σ) _ H3 rfl (((x1.trans x2).trans (x3.trans x)).weaken) J ((((V.step x1).step x2).step x3).step x)
  · rw [if_neg hc] at hne; exact absurd rfl hne
set_option tactic.hygienic true in
theorem setAttrM_inv {C : Cfg} {a d : D} {m : Str} (h : setAttrM C a m d S ≠ .stuck) : ∃ k c dn ns, a = .loc k /\ S[k]? = some (.inst c dn) /\ S[dn]? = some (.ns ns) /\ (C.clss.contains c = true /\ C.att c m = true) /\ ns.length < 100 /\ setAttrM C a m d S = .ok () (setS S dn (.ns ((m, d) :: ns))) := by
  unfold setAttrM at h
  split at h
  · rename_i n
    split at h
    · rename_i c dn hS
      split at h
      · rename_i ns hN
        split at h
        · rename_i hc
          have hc' := hc
          simp only [Bool.and_eq_true, decide_eq_true_eq] at hc'
          refine mk46 n c dn ns rfl hS hN hc'.1 hc'.2 ?_
          unfold setAttrM
          dsimp only
          rw [hS]
          dsimp only
          rw [hN]
          dsimp only
          rw [if_pos hc]
        · exact absurd rfl h
      · exact absurd rfl h
    · exact absurd rfl h
  · exact absurd rfl h
theorem assignAttr_arm (K : G.Ok) (X : Cxt G fs A r) (hcf : CfOk G cf r) {y m : Str} {v : Expr} {np p pos : Pos} : SOk G fs A cf (.Assign [.Attribute (.Name y np) m p] v pos) := by
  constructor
  intro H S s env sc σ F0 I V
  have q : ex G.C cf (.Assign [.Attribute (.Name y np) m p] v pos) sc σ = if notComp v then bnd (ev G.C cf v sc σ) fun d => bnd (nameD G.C sc σ y) fun a => bnd (setAttrM G.C a m d) fun _ => ret (.next σ) else stk := rfl
  rw [q]
  intro hne
  by_cases hc : notComp v = true
  · rw [if_pos hc] at hne ⊢
    refine plainObj_wpAny_Assign_Attribute (Wp.into ((e_all K X hcf v).ev I V) hne fun v1 d H1 S1 s1 e1 x1 I1 r1 n1 q1 => ?_) (swaps_no hc)
    rw [q1]
    have hn : Wp G fs A (RR G) H1 S1 s1 (eval (.Name y np) env) (nameD G.C sc σ y) := name_arm (cf := cf) K y np I1 (V.step x1)
    refine Wp.into hn n1 fun v2 a H2 S2 s2 e2 x2 I2 r2 n2 q2 => ?_
    rw [q2]
    refine ob46 (setAttrM_inv (bnd_inv n2)) fun k c dn ns er1 hS hN hcc hz he => ?_; subst er1
    rw [bnd_at he]
    refine ob31 (K.cls c hcc.1) fun Ca N mN F => ?_
    refine att_store F hcc.2 I2 r2 hS hN hz (r1.step x2) fun s' x J => ?_
    exact mk34 (.next σ) _ H2 rfl (((x1.trans x2).trans x).weaken) J (((V.step x1).step x2).step x)
  · rw [if_neg hc] at hne; exact absurd rfl hne
end
end Mine
end

section
namespace Mine
open PySem
section
variable {G : Glo} {fs : List Env} {A : Around} {cf : Str -> List D -> EM D} {r : Nat} {H : Hid} {S : Store} {s : Shared}
theorem Inv.setF2 {a b : Addr} {h' : Heap} {tk : Nat} (I : Inv G fs H S s) (ha : a ∈ H.fr) (hb : b ∈ H.fr) (hk : ∀ c o, c ≠ a -> c ≠ b -> s.heap.get? c = some o -> h'.get? c = some o) (hs : s.heap.objs.size <= h'.objs.size)
    (la : ∃ o, h'.get? a = some o) (lb : ∃ o, h'.get? b = some o) (na : ∀ env ∈ fs, env.frame ≠ some a) (nb : ∀ env ∈ fs, env.frame ≠ some b) : Inv G fs H S { s with heap := h', toks := tk } /\ Ext [a, b] H s.heap H h' := by
  have x : Ext [a, b] H s.heap H h' := ⟨rfl, ⟨[], by simp, by simp⟩, fun c o _ h2 e => hk c o (fun q => h2 (q ▸ ha)) (fun q => h2 (q ▸ hb)) e, fun c o _ h3 e => ⟨o.slots, hk c o (fun q => h3 (by simp [q])) (fun q => h3 (by simp [q])) e, fun _ => rfl⟩, hs⟩
  refine ⟨⟨fun c o e => hk c o (fun q => ?_) (fun q => ?_) (I.stays c o e), I.newS, I.newF, I.off, fun c hc => ?_, I.nodup, I.len, fun m o e => ?_, ?_, I.gens, I.os⟩, x⟩
  · rw [q, I.newF a ha] at e; cases e
  · rw [q, I.newF b hb] at e; cases e
  · by_cases h1 : c = a
    · subst h1; exact la
    · by_cases h2 : c = b
      · subst h2; exact lb
      · refine ob11 (I.liveF c hc) fun o e => ?_; exact mk11 o (hk c o h1 h2 e)
  · refine ob12 (I.objs m o e) fun c e1 e2 => ?_
    exact mk12 c e1 (e2.step x fun ob q => hk c _ (fun z => I.off c (List.mem_of_getElem? e1) (z ▸ ha)) (fun z => I.off c (List.mem_of_getElem? e1) (z ▸ hb)) q)
  · intro env he
    obtain ⟨a1, L, o, a2, a3, a4, a5⟩ := I.fa env he
    exact ⟨a1, L, o, a2, a3, hk L o (fun q => na env he (q ▸ a2)) (fun q => nb env he (q ▸ a2)) a4, a5⟩
theorem forE_cons {body : Nat -> D -> Sg -> EM Fl} {i : Nat} {d : D} {l : List D} {σ : Sg} : forE body i (d :: l) σ = bnd (calm (body i d σ)) fun f => match f with
    | .next σ' => forE body (i + 1) l σ'
    | .ret v => ret (.ret v) := rfl
structure EMid (G : Glo) (fs : List Env) (H : Hid) (h₁ : Heap) (env : Env) (sc : Scope) (body : Nat -> D -> Sg -> EM Fl) (ds : List D) (I e l : Addr) (vs : Array Value) (res : Out Fl) (n : Nat) (s : Shared)
    (k : Nat) (H1 : Hid) (S1 : Store) (σ1 : Sg) : Prop where
  cnt : n + k = ds.length
  x : Ext (I :: e :: xs env) ⟨H.ρ, [I, e] ++ H.fr⟩ h₁ H1 s.heap
  inv : Inv G fs H1 S1 s
  env : EnvOk G H1 s.heap env sc σ1
  en : ∃ old, IsEnum s.heap e I (k : Int) old
  it : s.heap.IsListIter I l k
  ls : s.heap.IsList l vs
  ne : forE body k (ds.drop k) σ1 S1 ≠ .stuck
  rest : res = forE body k (ds.drop k) σ1 S1
theorem pairE_inv {es : List Expr} {p : Str × Str} (h : pairE es = some p) : ∃ px py, es = [.Name p.1 px, .Name p.2 py] := by
  refine ob12 (Option.bind_eq_some_iff.mp h) fun q h1 h => ?_
  refine ob12 (Option.bind_eq_some_iff.mp h) fun x h2 h => ?_
  refine ob12 (Option.map_eq_some_iff.mp h) fun y h3 er1 => ?_; subst er1
  refine ob11 (nameE_inv h2) fun px e1 => ?_
  refine ob11 (nameE_inv h3) fun py e2 => ?_
  refine mk21 px py ?_
  match es, h1 with
  | [a, b], h1 => cases h1; rw [<- e1, <- e2]
theorem mem2 {a b c : Addr} (h : c ∈ [a, b]) : c = a \/ c = b := (List.mem_cons.mp h).imp_right List.eq_of_mem_singleton
theorem callE1_inv {e : Expr} {q : Expr × List Expr × List Keyword} (h : callE1 e = some q) : ∃ pos, e = .Call q.1 q.2.1 q.2.2 pos := by
  unfold callE1 at h
  split at h
  · cases h; exact mk11 _ rfl
  · cases h
theorem enumE_inv {iter e : Expr} (h : enumE iter = some e) : ∃ gp pos, iter = .Call (.Name "enumerate" gp) [e] [] pos := by
  refine ob12 (Option.bind_eq_some_iff.mp h) fun q h1 h => ?_
  refine ob12 (Option.bind_eq_some_iff.mp h) fun g h2 h3 => ?_
  refine ob11 (callE1_inv h1) fun pos e0 => ?_
  refine ob11 (nameE_inv h2) fun gp e1 => ?_
  by_cases hc : (g == "enumerate" && q.2.2.isEmpty) = true
  · rw [if_pos hc] at h3
    rw [Bool.and_eq_true, List.isEmpty_iff] at hc
    rw [e1, hc.2, beq_iff_eq.mp hc.1] at e0
    refine mk21 gp pos (e0.trans ?_)
    match hq : q.2.1, h3 with
    | [a], h3 => cases h3; rfl
  · rw [if_neg hc] at h3; cases h3
theorem onFz_inv {a : D} {k : List D -> EM Fl} (h : onFz a k S ≠ .stuck) : ∃ ds, a = .list ds := by
  unfold onFz at h
  split at h
  · exact mk11 _ rfl
  · exact absurd rfl h
theorem enum_arm (K : G.Ok) (X : Cxt G fs A r) {x y : Str} {px py tp gp ip pos : Pos} {tk0 : Nat} {e : Expr} {body : List Stmt} (he : EvOk G fs A cf e) (hb : BOk G fs A cf body) :
    SOk G fs A cf (.For (.Tuple [.Name x px, .Name y py] tk0 tp) (.Call (.Name "enumerate" gp) [e] [] ip) body [] pos) := by
  constructor
  intro H S s env sc σ F0 I V
  have q : ex G.C cf (.For (.Tuple [.Name x px, .Name y py] tk0 tp) (.Call (.Name "enumerate" gp) [e] [] ip) body [] pos) sc σ = if isGlobal sc "enumerate" then bnd (ev G.C cf e sc σ) fun a => onFz a fun ds =>
        forE (fun i d σ => bnd (optM (putName sc σ x (.int i))) fun σ1 => bnd (optM (putName sc σ1 y d)) fun σ' => exs G.C cf body sc σ') 0 ds σ else stk := rfl
  rw [q]
  intro hne
  by_cases hg : isGlobal sc "enumerate" = true
  rotate_left 1
  · rw [if_neg hg] at hne; exact absurd rfl hne
  rw [if_pos hg] at hne ⊢
  have ns := notStar hne
  have hs1 : noStar [e] = true := by
    unfold noStar
    rw [List.all_cons, List.all_nil, Bool.and_true]
    cases e with
    | Starred e' p => exact absurd rfl (ns e' p)
    | _ => rfl
  refine wpAny_For (wpAny_Call_NameR (bname_ok K I V hg (v := .type "enumerate") (by decide +kernel) (by rfl) (by decide +kernel) (PySem.callWith_type (T := "enumerate") (noStar_any ip env hs1) ?_))) (fun _ => rfl)
  rw [star_cons ns]
  refine Calls.evalArgs_plain (Calls.spliced_cons ((he I V).then K hne fun v a H1 S1 s1 e1 q1 n1 x1 I1 r1 => Calls.spliced_nil ?_))
  rw [q1]
  refine ob11 (onFz_inv n1) fun ds er1 => ?_; subst er1
  generalize hbd : (fun (i : Nat) (d : D) (σ : Sg) => bnd (optM (putName sc σ x (.int i))) fun σ1 => bnd (optM (putName sc σ1 y d)) fun σ' => exs G.C cf body sc σ') = bd at n1 ⊢
  have hbd' : ∀ i d σ, bd i d σ = bnd (optM (putName sc σ x (.int i))) fun σ1 => bnd (optM (putName sc σ1 y d)) fun σ' => exs G.C cf body sc σ' := fun i d σ => hbd ▸ rfl
  clear hbd
  have q2 : onFz (.list ds) (fun ds => forE bd 0 ds σ) S1 = forE bd 0 ds σ S1 := rfl
  rw [q2] at n1 ⊢
  cases r1 with | @list l vs m _ b1 b2 b3 b4 b5 =>
  have hlen : vs.size = ds.length := by rw [<- b5.length]; simp
  refine call_enumerate_1 b3 fun h1 en0 it0 hz1 keep1 => ?_
  have hT := en0
  refine wpAny_pyIter_enum en0 ?_
  generalize hI : s1.heap.objs.size = Ia at en0 it0 hz1
  have V1 := V.step x1
  have hh := X.handled
  have nsNew : ∀ b ∈ [Ia, Ia + 1], s1.heap.objs.size <= b := by
    intro b hb; rw [hI]
    rcases mem2 hb with q | q
    · exact q ▸ Nat.le_refl _
    · exact q ▸ Nat.le_succ _
  have liveI : ∀ b ∈ [Ia, Ia + 1], ∃ o, h1.get? b = some o := by
    intro b hb
    rcases mem2 hb with q | q
    · exact ob12 it0 fun o e _ => mk11 o (q ▸ e)
    · exact mk11 _ (q ▸ en0)
  have I2 : Inv G fs ⟨H1.ρ, [Ia, Ia + 1] ++ H1.fr⟩ S1 { s1 with heap := h1 } := I1.more (tk := s1.toks) keep1 nsNew liveI
  have V2 := V1.more (ns := [Ia, Ia + 1]) keep1 nsNew
  have fsI : ∀ env ∈ fs, env.frame ≠ some Ia := I1.noFrame fun q => absurd (I1.ltF q) (by rw [hI]; exact Nat.lt_irrefl _)
  have fsE : ∀ env ∈ fs, env.frame ≠ some (Ia + 1) := I1.noFrame fun q => absurd (I1.ltF q) (by rw [hI]; exact Nat.not_lt.mpr (Nat.le_succ _))
  have lowX : ∀ b ∈ xs env, b < Ia := by
    intro b hb
    rw [<- hI]
    rcases List.mem_cons.mp hb with q | q
    · rw [q]; exact V1.lt
    · refine ob12 (List.mem_map.mp q) fun p hp er1 => ?_; subst er1
      exact I1.ltF (V1.cin p hp)
  have nI : ∀ b ∈ xs env, b ≠ Ia := fun b hb => Nat.ne_of_lt (lowX b hb)
  have nE : ∀ b ∈ xs env, b ≠ Ia + 1 := fun b hb => Nat.ne_of_lt (Nat.lt_succ_of_lt (lowX b hb))
  have hl0 : l < Ia := by rw [<- hI]; exact Heap.lt_size b3
  have sz1 : s1.heap.objs.size <= h1.objs.size := by rw [hz1, hI]; exact Nat.le_add_right _ _
  have leave : ∀ {H3 : Hid} {S3 : Store} {s3 : Shared} {h' : Heap} {tk : Nat} {fl : Fl} {f : Flow}, Ext (Ia :: (Ia + 1) :: xs env) ⟨H1.ρ, [Ia, Ia + 1] ++ H1.fr⟩ h1 H3 s3.heap -> Inv G fs H3 S3 s3 -> FlR G env sc H3 s3.heap f fl ->
      (∀ b o, b ≠ Ia -> s3.heap.get? b = some o -> h'.get? b = some o) -> s3.heap.objs.size <= h'.objs.size ->
      forE bd 0 ds σ S1 = .ok fl S3 -> Post G fs env sc H s.heap (forE bd 0 ds σ S1) f { s3 with heap := h', toks := tk } := by
    intro H3 S3 s3 h' tk fl f yy J R hk hz hres
    have inI : Ia ∈ H3.fr := by rw [yy.fr]; simp
    have hf : ∀ b ∈ H1.fr, b ∈ H3.fr := fun b hb => by rw [yy.fr]; exact List.mem_append_right _ hb
    have hk' : ∀ b o, (b ∉ H3.fr \/ b ∈ H1.fr) -> s3.heap.get? b = some o -> h'.get? b = some o := fun b o q e => hk b o (fun e0 => q.elim (fun q => q (e0 ▸ inI)) fun q => absurd (I1.ltF q) (by rw [hI, e0]; exact Nat.lt_irrefl _)) e
    refine ⟨fl, S3, ⟨H3.ρ, H1.fr⟩, hres, x1.weaken.trans (Ext.around' (ns := [Ia, Ia + 1]) keep1 sz1 nsNew (fun b hb => by
      rcases List.mem_cons.mp hb with q | q
      · exact .inl (by simp [q])
      · rcases List.mem_cons.mp q with q | q
        · exact .inl (by simp [q])
        · exact .inr q) yy (fun b o hb e => hk b o (fun q => hb (by simp [q])) e) hz), J.leave hf I1.frames hk', ?_⟩
    cases fl with
    | next σ3 =>
      cases f with
      | next => exact EnvOk.less R hf hk' V1.inF V1.cin
      | _ => exact R.elim
    | ret d =>
      cases f with
      | ret v => exact Rd.ext (H := H3) (H' := ⟨H3.ρ, H1.fr⟩) (fun b o z1 z2 e => ⟨z1, fun z => z2 (hf b z), hk' b o (.inl z2) e⟩) (fun _ _ e => e) R
      | _ => exact R.elim
  refine codeAny_forLoop_any (fun n s' => ∃ k H2 S2 σ2, EMid G fs H1 h1 env sc bd ds Ia (Ia + 1) l vs (forE bd 0 ds σ S1) n s' k H2 S2 σ2) ?turn ds.length ?start
  case start => exact mk41 0 _ S1 σ ⟨rfl, Ext.refl, I2, V2, ⟨_, en0⟩, it0, ⟨_, keep1 _ _ b3, rfl, _, rfl⟩, by simpa using n1, by simp⟩
  case turn =>
    rintro n s₅ ⟨k, H2, S2, σ2, M⟩
    have hfr : H2.fr = [Ia, Ia + 1] ++ H1.fr := M.x.fr
    have inI : Ia ∈ H2.fr := by rw [hfr]; simp
    have inE : Ia + 1 ∈ H2.fr := by rw [hfr]; simp
    refine ob11 M.en fun old hen => ?_
    have lS : l ∉ H2.ρ := M.x.notin b1 (by rw [hz1]; exact Nat.lt_of_lt_of_le hl0 (Nat.le_add_right _ _))
    have lF : l ∉ H2.fr := fun q => by
      rw [hfr] at q
      rcases List.mem_append.mp q with q | q
      · simp only [List.mem_cons, List.not_mem_nil, or_false] at q
        rcases q with q | q
        · exact absurd hl0 (by rw [q]; exact Nat.lt_irrefl _)
        · exact absurd hl0 (by rw [q]; exact Nat.not_lt.mpr (Nat.le_succ _))
      · exact b2 q
    have hlI : l ≠ Ia := Nat.ne_of_lt hl0
    have hlE : l ≠ Ia + 1 := Nat.ne_of_lt (Nat.lt_succ_of_lt hl0)
    cases n with
    | zero =>
      have hk : k = ds.length := by have := M.cnt; lia
      refine wpAny_size (wpAny_pyNext_enum_end hh hen M.it M.ls (by rw [Array.getElem?_eq_none]; lia) fun h' keep hz => ?_)
      refine wpAny_execs_nil (leave (tk := s₅.toks) (fl := .next σ2) M.x M.inv M.env keep hz ?_)
      rw [M.rest, hk, List.drop_length]; rfl
    | succ n =>
      have hk : k < ds.length := by have := M.cnt; lia
      have hkv : k < vs.size := by lia
      have hv : vs[k]? = some vs[k] := by simp [hkv]
      refine wpAny_pyNext_enum_item hen M.it M.ls hv (Nat.succ_ne_self Ia) fun h2 en2 it2 tu2 sz2 keep2 => ?_
      refine wpAny_letOwnedTupleGo_enum en2 fun h3 en3 sb3 => ?_
      replace sb3 : Heap.SameBut (Ia + 1) h2 h3 := sb3
      have hEs : Ia + 1 < s₅.heap.objs.size := Heap.lt_size hen
      have ht3 : h3.IsTuple s₅.heap.objs.size #[.int k s₅.toks, vs[k]] := ⟨_, (sb3.2 _ (Nat.ne_of_gt hEs)).trans tu2, rfl, _, rfl⟩
      refine wpAny_assign_Tuple hh ht3 rfl rfl fun h4 ex4 => ?_
      replace ex4 : Heap.ExtBut h3.objs.size h3 h4 := ex4
      have sz3 : h3.objs.size = s₅.heap.objs.size + 1 := sb3.1.trans sz2
      have hz4 : s₅.heap.objs.size <= h4.objs.size := by
        refine ob12 ht3 fun o o1 _ => ?_; clear ht3
        exact Nat.le_of_lt (Heap.lt_size (ex4 _ o (by rw [sz3]; exact (Nat.succ_ne_self _).symm) o1))
      have up : ∀ b o, b < s₅.heap.objs.size -> h3.get? b = some o -> h4.get? b = some o := fun b o hb e => ex4 b o (by rw [sz3]; exact Nat.ne_of_lt (Nat.lt_succ_of_lt hb)) e
      have keep4 : ∀ b o, b ≠ Ia -> b ≠ Ia + 1 -> s₅.heap.get? b = some o -> h4.get? b = some o := fun b o h1 h2 e => up b o (Heap.lt_size e) ((sb3.2 b h2).trans (keep2 b o h2 h1 e))
      have en4 : IsEnum h4 (Ia + 1) Ia ((k : Int) + 1) vs[k] := up _ _ hEs en3
      have hIs : Ia < s₅.heap.objs.size := Nat.lt_of_succ_lt hEs
      have it4 : h4.IsListIter Ia l (k + 1) := (it2.extBut sb3.extBut (Nat.succ_ne_self Ia).symm).at fun o e => up Ia o hIs e
      have hd : ds[k]? = some ds[k] := List.getElem?_eq_getElem hk
      refine ob12 (b5.at (i := k) (v := vs[k]) (by rw [Array.getElem?_toList]; exact hv)) fun d hd' rv => ?_
      have hdrop : ds.drop k = d :: ds.drop (k + 1) := by
        rw [List.drop_eq_getElem_cons hk, Option.some.inj (hd.symm.trans hd')]
      refine ob02 (M.inv.setF2 (tk := s₅.toks + 1) inI inE keep4 hz4 (let ⟨o, e, _⟩ := it4; ⟨o, e⟩) ⟨_, en4⟩ fsI fsE) fun J6 xI => ?_
      have sub1 : ∀ b ∈ [Ia, Ia + 1], b ∈ Ia :: (Ia + 1) :: xs env := by
        intro b hb
        rcases mem2 hb with q | q
        · exact q ▸ List.mem_cons_self ..
        · exact q ▸ List.mem_cons_of_mem _ (List.mem_cons_self ..)
      have x6 := M.x.trans (xI.mono sub1)
      have V6 := M.env.stepX xI ⟨by
        intro q; simp only [List.mem_cons, List.not_mem_nil, or_false] at q
        exact q.elim (nI _ (List.mem_cons_self ..)) (nE _ (List.mem_cons_self ..)), fun y i c q e => by
        intro q; simp only [List.mem_cons, List.not_mem_nil, or_false] at q
        exact q.elim (nI _ (List.mem_cons_of_mem _ (lookup_mem e))) (nE _ (List.mem_cons_of_mem _ (lookup_mem e)))⟩
      have rv6 := Rd.into keep1 nsNew x6 rv
      have ne1 := M.ne
      have res1 := M.rest
      rw [hdrop, forE_cons] at ne1 res1
      have ne2 : calm (bd k d σ2) S2 ≠ .stuck := bnd_inv ne1
      have ne2' := ne2
      rw [hbd'] at ne2
      cases hp : putName sc σ2 x (.int k) with
      | none => rw [hp] at ne2; exact absurd rfl ne2
      | some σ3 =>
        cases hp2 : putName sc σ3 y d with
        | none =>
          rw [hp] at ne2
          have ne3 : calm (bnd (optM (putName sc σ3 y d)) fun σ' => exs G.C cf body sc σ') S2 ≠ .stuck := ne2
          rw [hp2] at ne3; exact absurd rfl ne3
        | some σ4 =>
          show wpAny _ A (do holding [vs[k]] (assign (.Name x px) env (.int k s₅.toks)); do holding [] (assign (.Name y py) env vs[k]); pure ()) _ _ _
          refine wpAny_bind (wpAny_holding (wpAny_assign_Name (put_ok J6 V6 (.int _ _) hp fun h7 tk7 x7 J7 V7 => ?_)))
          refine wpAny_bind (wpAny_holding (wpAny_assign_Name (put_ok J7 V7 (rv6.ext x7.hk x7.hp) hp2 fun h8 tk8 x8 J8 V8 => wpAny_pure ?_)))
          have q3 : bd k d σ2 S2 = exs G.C cf body sc σ4 S2 := by
            rw [hbd', hp]
            show bnd (optM (putName sc σ3 y d)) (fun σ' => exs G.C cf body sc σ') S2 = _
            rw [hp2]; rfl
          have ne3 : exs G.C cf body sc σ4 S2 ≠ .stuck := fun z => ne2' (q3.trans z)
          refine wpAny_mono (hb.go F0 J8 V8 ne3) (fun f s9 p => ?_) fun _ _ p => False.elim p
          refine ob34 p fun fl S9 H9 e9 x9 J9 R9 => ?_; clear p
          rw [bnd_at (q3.trans e9)] at ne1 res1
          have y9 : Ext (Ia :: (Ia + 1) :: xs env) ⟨H1.ρ, [Ia, Ia + 1] ++ H1.fr⟩ h1 H9 s9.heap := ((x6.trans (x7.mono fun b hb => List.mem_cons_of_mem _ (List.mem_cons_of_mem _ hb))).trans (x8.mono fun b hb => List.mem_cons_of_mem _ (List.mem_cons_of_mem _ hb))).trans (x9.mono fun b hb => List.mem_cons_of_mem _ (List.mem_cons_of_mem _ hb))
          cases fl with
          | next σ9 =>
            cases f with
            | next =>
              have z : Ext (xs env) H2 h4 H9 s9.heap := (x7.trans x8).trans x9
              refine ⟨n, Nat.lt_succ_self _, k + 1, H9, S9, σ9, ⟨by have := M.cnt; lia, y9, J9, R9, ⟨vs[k], ?_⟩, ?_, ?_, ne1, res1⟩⟩
              · have : ((k + 1 : Nat) : Int) = (k : Int) + 1 := by lia
                rw [this]
                exact z.plain inE (fun q => nE _ q rfl) rfl en4
              · refine ob13 it4 fun o o1 o2 o3 => ?_; clear it4
                exact mk13 o (z.plain inI (fun q => nI _ q rfl) (plainO_of o3) o1) o2 o3
              · refine ob12 M.ls fun o o1 o2 => ?_
                exact mk12 o (z.keep l o lS lF (keep4 l o hlI hlE o1)) o2
            | _ => exact R9.elim
          | ret dv =>
            cases f with
            | ret rv' => exact leave (fl := .ret dv) (tk := s9.toks) (h' := s9.heap) y9 J9 R9 (fun _ _ _ e => e) (Nat.le_refl _) res1
            | _ => exact R9.elim
end
end Mine
end

section
namespace Mine
open PySem
section
variable {G : Glo} {fs : List Env} {A : Around} {cf : Str -> List D -> EM D} {r : Nat}
theorem s_stk {st : Stmt} (h : ∀ sc σ S, ex G.C cf st sc σ S = .stuck) : SOk G fs A cf st := ⟨fun _ _ _ hne => absurd (h _ _ _) hne⟩
variable (K : G.Ok) (X : Cxt G fs A r) (hcf : CfOk G cf r)
include K X hcf
theorem assign_arm (ts : List Expr) (v : Expr) (pos : Pos) : SOk G fs A cf (.Assign ts v pos) := by
  match ts with
  | [] => exact s_stk fun _ _ _ => rfl
  | _ :: _ :: _ => exact s_stk fun _ _ _ => rfl
  | [t] =>
    cases t with
    | Name x np => exact assignName_arm K X hcf
    | Tuple es k tp => exact assignTuple_arm K X hcf
    | Subscript o i p => exact assignSub_arm K X hcf
    | Attribute o m p =>
      cases hn : nameE o with
      | none => exact s_stk fun sc σ S => by show bnd (optM (nameE o)) _ S = _; rw [hn]; rfl
      | some y => refine ob11 (nameE_inv hn) fun np er1 => ?_; subst er1; exact assignAttr_arm K X hcf
    | _ => exact s_stk fun _ _ _ => rfl
theorem forS_arm {t iter : Expr} {body orelse : List Stmt} {pos : Pos} (hi : EvOk G fs A cf iter) (hb : BOk G fs A cf body) : SOk G fs A cf (.For t iter body orelse pos) := by
  cases orelse with
  | cons => refine s_stk fun _ _ _ => ?_; cases t <;> rfl
  | nil =>
    cases t with
    | Tuple es k tp =>
      cases hp : pairE es with
      | none => exact s_stk fun sc σ S => by show bnd (optM (pairE es)) _ S = _; rw [hp]; rfl
      | some p =>
        cases he : enumE iter with
        | none => exact s_stk fun sc σ S => by show bnd (optM (pairE es)) (fun p => bnd (optM (enumE iter)) _) S = _; rw [hp, he]; rfl
        | some e =>
          refine ob21 (pairE_inv hp) fun px py er1 => ?_; subst er1
          refine ob21 (enumE_inv he) fun gp ip er1 => ?_; subst er1
          exact enum_arm K X (e_all K X hcf e).ev hb
    | Name x px => exact for_arm K X hi hb
    | _ => exact s_stk fun _ _ _ => rfl
omit X hcf in
theorem whileS_arm {t : Expr} {body orelse : List Stmt} {pos : Pos} (ht : TOk G fs A cf t) (hb : BOk G fs A cf body) : SOk G fs A cf (.While t body orelse pos) := by
  cases orelse with
  | nil => exact while_arm K ht hb
  | cons => exact s_stk fun _ _ _ => rfl
mutual
theorem s_all : ∀ st : Stmt, SOk G fs A cf st
  | .Pass pos => pass_arm pos
  | .Return (some e) pos => ret_arm K X hcf
  | .Return none pos => ret0_arm
  | .Expr e pos => expr_arm K X hcf
  | .Assign ts v pos => assign_arm K X hcf ts v pos
  | .If t b o pos => if_arm K (e_all K X hcf t).t (b_all b) (b_all o)
  | .For t iter body orelse pos => forS_arm K X hcf (e_all K X hcf iter).ev (b_all body)
  | .While t body orelse pos => whileS_arm K (e_all K X hcf t).t (b_all body)
  | .FunctionDef .. => s_stk fun _ _ _ => rfl
  | .AsyncFunctionDef .. => s_stk fun _ _ _ => rfl
  | .ClassDef .. => s_stk fun _ _ _ => rfl
  | .Delete .. => s_stk fun _ _ _ => rfl
  | .TypeAlias .. => s_stk fun _ _ _ => rfl
  | .AugAssign .. => s_stk fun _ _ _ => rfl
  | .AnnAssign .. => s_stk fun _ _ _ => rfl
  | .AsyncFor .. => s_stk fun _ _ _ => rfl
  | .With .. => s_stk fun _ _ _ => rfl
  | .AsyncWith .. => s_stk fun _ _ _ => rfl
  | .Match .. => s_stk fun _ _ _ => rfl
  | .Raise .. => s_stk fun _ _ _ => rfl
  | .Try .. => s_stk fun _ _ _ => rfl
  | .TryStar .. => s_stk fun _ _ _ => rfl
  | .Assert .. => s_stk fun _ _ _ => rfl
  | .Import .. => s_stk fun _ _ _ => rfl
  | .ImportFrom .. => s_stk fun _ _ _ => rfl
  | .Global .. => s_stk fun _ _ _ => rfl
  | .Nonlocal .. => s_stk fun _ _ _ => rfl
  | .Break .. => s_stk fun _ _ _ => rfl
  | .Continue .. => s_stk fun _ _ _ => rfl
theorem b_all : ∀ b : List Stmt, BOk G fs A cf b
  | [] => execs_nil
  | st :: b => execs_cons (s_all st) (b_all b)
end
end
end Mine
end

section
set_option backward.match.sparseCases true
namespace Mine
open PySem
theorem bindL_miss {kindOf : Str -> Option NameKind} {x : Str} : ∀ {b : List (Str × Value)} {m : Str -> Option Value}, (∀ p ∈ b, p.1 ≠ x) -> bindL kindOf b m x = m x
  | [], _, _ => rfl
  | (n, v) :: r, m, h => by
    unfold bindL
    rw [bindL_miss fun p hp => h p (List.mem_cons_of_mem _ hp)]
    have hn : x ≠ n := fun q => h (n, v) (List.mem_cons_self ..) q.symm
    split
    · simp [hn]
    · rfl
theorem bindC_miss {kindOf : Str -> Option NameKind} {x : Str} : ∀ {b : List (Str × Value)} {m : Str -> Option Value}, (∀ p ∈ b, p.1 ≠ x) -> bindC kindOf b m x = m x
  | [], _, _ => rfl
  | (n, v) :: r, m, h => by
    unfold bindC
    rw [bindC_miss fun p hp => h p (List.mem_cons_of_mem _ hp)]
    have hn : x ≠ n := fun q => h (n, v) (List.mem_cons_self ..) q.symm
    split
    · rfl
    · simp [hn]
theorem bindL_hit {kindOf : Str -> Option NameKind} {x : Str} {v : Value} (hk : kindOf x = some .local) : ∀ {b : List (Str × Value)} {m : Str -> Option Value}, (b.map (·.1)).Nodup -> (x, v) ∈ b -> bindL kindOf b m x = some v
  | [], _, _, h => by cases h
  | (n, w) :: r, m, hn, h => by
    rw [List.map_cons, List.nodup_cons] at hn
    unfold bindL
    rcases List.mem_cons.mp h with e | h
    · cases e
      rw [bindL_miss fun p hp q => hn.1 (List.mem_map.mpr ⟨p, hp, q⟩), if_pos hk]
      simp
    · exact bindL_hit hk hn.2 h
theorem bindC_hit {kindOf : Str -> Option NameKind} {x : Str} {v : Value} (hk : kindOf x ≠ some .local) : ∀ {b : List (Str × Value)} {m : Str -> Option Value}, (b.map (·.1)).Nodup -> (x, v) ∈ b -> bindC kindOf b m x = some v
  | [], _, _, h => by cases h
  | (n, w) :: r, m, hn, h => by
    rw [List.map_cons, List.nodup_cons] at hn
    unfold bindC
    rcases List.mem_cons.mp h with e | h
    · cases e
      rw [bindC_miss fun p hp q => hn.1 (List.mem_map.mpr ⟨p, hp, q⟩), if_neg hk]
      simp
    · exact bindC_hit hk hn.2 h
theorem cellsFrom_nodup : ∀ {ns : List (Str × NameKind)} {n : Nat} {acc : List (Str × Addr)}, (ns.map (·.1)).Nodup -> (acc.map (·.1)).Nodup -> (∀ p ∈ acc, p.1 ∉ ns.map (·.1)) -> ((cellsFrom n ns acc).map (·.1)).Nodup
  | [], _, _, _, h, _ => h
  | (x, k) :: r, n, acc, hn, ha, hd => by
    rw [List.map_cons, List.nodup_cons] at hn
    have hd' : ∀ p ∈ acc, p.1 ∉ r.map (·.1) := fun p hp q => hd p hp (by rw [List.map_cons]; exact List.mem_cons_of_mem _ q)
    unfold cellsFrom
    split
    · refine cellsFrom_nodup hn.2 ?_ ?_
      · rw [List.map_cons, List.nodup_cons]
        refine ⟨fun q => ?_, ha⟩
        refine ob12 (List.mem_map.mp q) fun p hp e => ?_
        exact hd p hp (by rw [e]; simp)
      · intro p hp
        rcases List.mem_cons.mp hp with e | hp
        · subst e; exact hn.1
        · exact hd' p hp
    · exact cellsFrom_nodup hn.2 ha hd'
theorem cellsFrom_acc : ∀ {ns : List (Str × NameKind)} {n : Nat} {acc : List (Str × Addr)} {p : Str × Addr}, p ∈ acc -> p ∈ cellsFrom n ns acc
  | [], _, _, _, h => h
  | (x, k) :: r, n, acc, p, h => by
    unfold cellsFrom
    split
    · exact cellsFrom_acc (List.mem_cons_of_mem _ h)
    · exact cellsFrom_acc h
theorem cellsFrom_has : ∀ {ns : List (Str × NameKind)} {n : Nat} {acc : List (Str × Addr)} {x : Str}, (x, NameKind.cell) ∈ ns -> ∃ c, (x, c) ∈ cellsFrom n ns acc
  | [], _, _, _, h => by cases h
  | (y, k) :: r, n, acc, x, h => by
    unfold cellsFrom
    rcases List.mem_cons.mp h with e | h
    · cases e
      rw [if_pos (by decide)]
      exact mk11 n (cellsFrom_acc (List.mem_cons_self ..))
    · split
      · exact cellsFrom_has h
      · exact cellsFrom_has h
theorem nodup_lookup {α : Type} {x : Str} {c : α} : ∀ {l : List (Str × α)}, (l.map (·.1)).Nodup -> (x, c) ∈ l -> l.lookup x = some c
  | [], _, h => by cases h
  | (y, d) :: l, hn, h => by
    rw [List.map_cons, List.nodup_cons] at hn
    rw [List.lookup_cons]
    rcases List.mem_cons.mp h with e | h
    · cases e; simp
    · have : x ≠ y := fun q => hn.1 (List.mem_map.mpr ⟨_, h, q⟩)
      rw [beq_false_of_ne this]
      exact nodup_lookup hn.2 h
theorem lookup_memP {α : Type} {x : Str} {c : α} : ∀ {l : List (Str × α)}, l.lookup x = some c -> (x, c) ∈ l
  | [], h => by cases h
  | (y, d) :: l, h => by
    rw [List.lookup_cons] at h
    by_cases hy : (x == y) = true
    · rw [hy] at h
      obtain rfl := beq_iff_eq.mp hy
      cases h; exact List.mem_cons_self ..
    · have hy' : (x == y) = false := by simpa using hy
      rw [hy'] at h
      exact List.mem_cons_of_mem _ (lookup_memP h)
theorem pairwise_same {l : List (Str × Addr)} (h : l.Pairwise fun x y => x.2 ≠ y.2) {p q : Str × Addr} (hp : p ∈ l) (hq : q ∈ l) (e : p.2 = q.2) : p = q := by
  induction l with
  | nil => cases hp
  | cons a l ih =>
    rw [List.pairwise_cons] at h
    rcases List.mem_cons.mp hp with e1 | hp'
    · rcases List.mem_cons.mp hq with e2 | hq'
      · rw [e1, e2]
      · exact absurd (e1 ▸ e) (h.1 q hq')
    · rcases List.mem_cons.mp hq with e2 | hq'
      · exact absurd (e2 ▸ e).symm (h.1 p hp')
      · exact ih h.2 hp' hq'
set_option tactic.hygienic true in
theorem bindSg_get {ps : List Str} {ds : List D} : ∀ {ns : List (Str × NameKind)} {x : Str} {i : Nat} {k : NameKind}, slot ns x = some (i, k) -> (bindSg ps ds ns)[i]? = some ((ps.zip ds).lookup x)
  | [], _, _, _, h => by cases h
  | (y, k') :: r, x, i, k, h => by
    unfold slot at h
    unfold bindSg
    split at h
    · rename_i q; cases h
      obtain rfl := beq_iff_eq.mp q
      rfl
    · split at h
      · rename_i j k'' q2; cases h
        rw [List.getElem?_cons_succ]
        exact bindSg_get q2
      · cases h
section
variable {G : Glo} {fs : List Env} {A : Around} {r : Nat} {H : Hid} {S : Store} {s : Shared}
theorem zip_rd {P : Params} {h : Heap} {x : Str} {d : D} : ∀ {ps : List Str} {vs : List Value} {ds : List D}, RdAll P H h vs ds -> (ps.zip ds).lookup x = some d -> ∃ v, (x, v) ∈ ps.zip vs /\ Rd P H h v d
  | [], _, _, _, h => by simp at h
  | p :: ps, _, _, .nil, h => by simp at h
  | p :: ps, _, _, .cons (v := v) (d := e) a b, h => by
    rw [List.zip_cons_cons, List.lookup_cons] at h
    rw [List.zip_cons_cons]
    by_cases hx : (x == p) = true
    · rw [hx] at h; cases h
      obtain rfl := beq_iff_eq.mp hx
      exact mk12 v (List.mem_cons_self ..) a
    · have hx' : (x == p) = false := by simpa using hx
      rw [hx'] at h
      refine ob12 (zip_rd b h) fun v' e1 e2 => ?_
      exact mk12 v' (List.mem_cons_of_mem _ e1) e2
theorem zip_keys {ps : List Str} {vs : List Value} (hn : ps.Nodup) (hl : vs.length = ps.length) : ((ps.zip vs).map (·.1)).Nodup := by
  have : (ps.zip vs).map (·.1) = ps := by
    rw [List.map_fst_zip]; lia
  rw [this]; exact hn
set_option tactic.hygienic true in
theorem fnOk_inv {fn : Fn} (h : fnOk fn = true) : fn.scope.kind = .function /\ fn.scope.isCoroutine = false /\ fn.scope.isGenerator = false /\ fn.params.Nodup /\ (fn.scope.names.map (·.1)).Nodup /\
    ∀ x ∈ fn.params, ∃ i, slot fn.scope.names x = some (i, .local) \/ slot fn.scope.names x = some (i, .cell) := by
  unfold fnOk at h
  simp only [Bool.and_eq_true, decide_eq_true_eq, Bool.not_eq_true', List.all_eq_true] at h
  obtain ⟨⟨⟨⟨⟨h1, h2⟩, h3⟩, h4⟩, h5⟩, h6⟩ := h
  refine ⟨by simpa using h1, h2, h3, h4, h5, fun x hx => ?_⟩
  have := h6 x hx
  split at this
  · rename_i i q; exact mk11 i (.inl q)
  · rename_i i q; exact mk11 i (.inr q)
  · cases this
theorem call_env (K : G.Ok) (I : Inv G fs H S s) {f : Str} {fn : Fn} {a : Addr} {cd : Value} {vs : List Value} {ds : List D} {h₁ : Heap} {tk : Nat} (hok : fnOk fn = true) (hl : vs.length = fn.params.length) (rv : RdAll G.P H s.heap vs ds)
    (F : PyProof.Rows.Fr s.heap s.heap.objs.size h₁ (bindL (PyProof.Rows.envOfC f fn.scope s.heap.objs.size a cd).kindOf (fn.params.zip vs) fun _ => none))
    (C : PyProof.Rows.Cl s.heap.objs.size (cellsFrom (s.heap.objs.size + 1) fn.scope.names []) h₁ (bindC (PyProof.Rows.envOfC f fn.scope s.heap.objs.size a cd).kindOf (fn.params.zip vs) fun _ => none)) :
    (∀ b ∈ xs (PyProof.Rows.envOfC f fn.scope s.heap.objs.size a cd), s.heap.objs.size <= b) /\
    Inv G (PyProof.Rows.envOfC f fn.scope s.heap.objs.size a cd :: fs) ⟨H.ρ, xs (PyProof.Rows.envOfC f fn.scope s.heap.objs.size a cd) ++ H.fr⟩ S { s with heap := h₁, toks := tk } /\
    EnvOk G ⟨H.ρ, xs (PyProof.Rows.envOfC f fn.scope s.heap.objs.size a cd) ++ H.fr⟩ h₁ (PyProof.Rows.envOfC f fn.scope s.heap.objs.size a cd) fn.scope (bindSg fn.params ds fn.scope.names) := by
  refine ob06 (fnOk_inv hok) fun k1 k2 k3 k4 k5 k6 => ?_
  have keys : ((cellsFrom (s.heap.objs.size + 1) fn.scope.names []).map (·.1)).Nodup := cellsFrom_nodup k5 (by simp) (by simp)
  have nsNew : ∀ b ∈ xs (PyProof.Rows.envOfC f fn.scope s.heap.objs.size a cd), s.heap.objs.size <= b := by
    intro b hb
    rcases List.mem_cons.mp hb with q | q
    · rw [q]; exact Nat.le_refl _
    · refine ob12 (List.mem_map.mp q) fun p hp er1 => ?_; subst er1
      exact Nat.le_of_lt (C.above p.1 p.2 hp)
  have live : ∀ b ∈ xs (PyProof.Rows.envOfC f fn.scope s.heap.objs.size a cd), ∃ o, h₁.get? b = some o := by
    intro b hb
    rcases List.mem_cons.mp hb with q | q
    · rw [q]; refine ob32 F.ns fun o _ _ e _ => ?_; exact mk11 o e
    · refine ob12 (List.mem_map.mp q) fun p hp er1 => ?_; subst er1
      refine ob12 (C.cell p.1 p.2 (nodup_lookup keys hp)) fun o e _ => ?_
      exact mk11 o e
  have I1 := I.more (tk := tk) F.keep nsNew live
  have rd1 : ∀ {v : Value} {d : D}, Rd G.P H s.heap v d -> Rd G.P ⟨H.ρ, xs (PyProof.Rows.envOfC f fn.scope s.heap.objs.size a cd) ++ H.fr⟩ h₁ v d := fun q => q.more F.keep fun b hb => (List.mem_append.mp hb).elim (fun z => .inr (nsNew b z)) .inl
  have zk := zip_keys k4 hl
  refine ⟨nsNew, { I1 with fa := fun env he => ?_ }, ⟨rfl, k1, rfl, rfl, List.mem_append_left _ (List.mem_cons_self ..), ⟨_, F.ns, fun x i d q1 q2 => ?_⟩, fun x i q => ?_, fun p hp => List.mem_append_left _ (List.mem_cons_of_mem _ (List.mem_map.mpr ⟨p, hp, rfl⟩)), fun x y i j c _ _ e1 e2 => ?_⟩⟩
  · rcases List.mem_cons.mp he with rfl | he
    · refine ⟨by show fn.scope.kind ≠ _; rw [k1]; decide, s.heap.objs.size, ?_⟩
      refine ob33 F.ns fun o es ep e e2 _ => ?_
      exact mk14 o rfl (List.mem_append_left _ (List.mem_cons_self ..)) e (by unfold plainO; rw [e2])
    · exact I1.fa env he
  · rw [bindSg_get q1] at q2
    refine ob12 (zip_rd rv (Option.some.inj q2)) fun v e1 e2 => ?_
    exact mk12 v (bindL_hit (show fn.scope.names.lookup x = _ from slot_lookup q1) zk e1) (rd1 e2)
  · refine ob11 (cellsFrom_has (n := s.heap.objs.size + 1) (acc := []) (slot_mem q)) fun c hc => ?_
    have hlk := nodup_lookup keys hc
    refine ⟨c, hlk, List.mem_append_left _ (List.mem_cons_of_mem _ (List.mem_map.mpr ⟨_, hc, rfl⟩)), (Nat.ne_of_lt (C.above x c hc)).symm, _, C.cell x c hlk, fun d q2 => ?_⟩
    rw [bindSg_get q] at q2
    refine ob12 (zip_rd rv (Option.some.inj q2)) fun v e1 e2 => ?_
    refine mk12 v (bindC_hit (fun z => ?_) zk e1) (rd1 e2)
    rw [show (PyProof.Rows.envOfC f fn.scope s.heap.objs.size a cd).kindOf x = some .cell from slot_lookup q] at z
    cases z
  · have := pairwise_same C.apart (lookup_memP e1) (lookup_memP e2) rfl
    cases this; rfl
theorem Inv.tail {env : Env} (I : Inv G (env :: fs) H S s) : Inv G fs H S s := { I with fa := fun e he => I.fa e (List.mem_cons_of_mem _ he) }
open PyProof.Rows in
theorem call_meth {prog : Program} {w : World} {R : Result -> Shared -> Prop} {name qual : Str} {params : Arguments} {body : List Stmt} {scope : Scope}
    {pm cd doc : Value} {a : Addr} {o : Obj} {args : List Value} {binds : List (Str × Value)}
    (hroom : A.depth < recursionLimit) (ho : s.heap.get? a = some o) (hdata : o.data = .func (methDef name qual params body scope pm cd doc)) (hlim : s.heap.NoLimit) (hcd : s.heap.CodeRec cd qual)
    (hbind : bindArgs (methDef name qual params body scope pm cd doc) ⟨args, []⟩ = pure binds)
    (hkind : ∀ x ∈ binds, scope.names.lookup x.1 = some .local \/ (scope.names.lookup x.1 = some .cell /\ ((cellsFrom (s.heap.objs.size + 1) scope.names []).lookup x.1).isSome = true))
    (h : ∀ h₁ tk, Fr s.heap s.heap.objs.size h₁ (bindL (envOfC qual scope s.heap.objs.size a cd).kindOf binds fun _ => none) ->
      Cl s.heap.objs.size (cellsFrom (s.heap.objs.size + 1) scope.names []) h₁ (bindC (envOfC qual scope s.heap.objs.size a cd).kindOf binds fun _ => none) ->
      wpAny (model prog w) (A.deeper (envOfC qual scope s.heap.objs.size a cd)) (execs body (envOfC qual scope s.heap.objs.size a cd))
        (fun f s' => R (.ok (.ret (match f with | .ret v => v | _ => .none))) s')
        (fun e s' => wpAny (model prog w) (A.deeper (envOfC qual scope s.heap.objs.size a cd)) (leaving (envOfC qual scope s.heap.objs.size a cd) e)
          (fun _ s'' => R (.error e) s'') (fun e' s'' => R (.error e') s'') s')
        { s with heap := h₁, toks := tk })
    (hco : scope.isCoroutine = false) (hgen : scope.isGenerator = false) (hk : scope.kind = .function) :
    codeAny (model prog w) A (.call (.ref a) ⟨args, []⟩) R s := by
  refine codeAny_call_cells (fd := methDef name qual params body scope pm cd doc) hroom ho hdata hlim hcd rfl hbind rfl hkind (fun s₁ X => ?_) hco hgen hk
  refine ob22 X.done fun h₁ tk er1 _ => ?_; subst er1
  exact h h₁ tk ⟨X.toInCall.ns, X.toInCall.keep, X.toInCall.fresh⟩ ⟨X.cell, X.apart, X.above⟩
theorem call_ok (K : G.Ok) {cf : Str -> List D -> EM D} {fn : Fn} {a : Addr} {vs : List Value} {ds : List D} (hcf : CfOk G cf r) (Xh : A.handled = none) (Xf : A.frames = some fs) (Xd : A.depth + 2 * (r + 1) <= 851) (Xu : A.units + 4 * (r + 1) <= 8901) (I : Inv G fs H S s) (FA : FnAt G fn a) (rv : RdAll G.P H s.heap vs ds) :
    Wp G fs A (RR G) H S s (call (.ref a) vs) (runFn G.C cf fn ds) := by
  intro hne
  refine ob75 FA fun o nm f params pm code doc e2 e3 e4 e5 e6 => ?_; clear FA
  unfold runFn at hne ⊢
  by_cases hl : (ds.length == fn.params.length) = true
  · rw [if_pos hl] at hne ⊢
    have hl' : vs.length = fn.params.length := by rw [rv.length]; simpa using hl
    refine ob06 (fnOk_inv e5) fun k1 k2 k3 k4 k5 k6 => ?_
    have keys : ((cellsFrom (s.heap.objs.size + 1) fn.scope.names []).map (·.1)).Nodup := cellsFrom_nodup k5 (by simp) (by simp)
    refine wpAny_call (call_meth (by show A.depth < 1000; lia) (I.stays a o e2) e3 (K.nolimit.keeps I.stays) (e4.keeps I.stays) (e6 vs hl') (fun x hx => ?_) (fun h₁ tk F C => ?_) k2 k3 k1)
    · have hx' : x.1 ∈ fn.params := (List.of_mem_zip (a := x.1) (b := x.2) hx).1
      obtain ⟨i, q | q⟩ := k6 x.1 hx'
      · exact .inl (slot_lookup q)
      · refine ob11 (cellsFrom_has (n := s.heap.objs.size + 1) (acc := []) (slot_mem q)) fun c hc => ?_
        exact .inr ⟨slot_lookup q, by rw [nodup_lookup keys hc]; rfl⟩
    · refine ob03 (call_env K I (tk := tk) e5 hl' rv F C) fun nsNew I1 V1 => ?_
      generalize henv : PyProof.Rows.envOfC f fn.scope s.heap.objs.size a code = env at nsNew I1 V1 ⊢
      have X1 : Cxt G (env :: fs) (A.deeper env) r := by
        refine ⟨Xh, Around.frames_deeper Xf, ⟨env, fs, rfl, ?_, ?_, V1.bi, V1.glob⟩, ?_, ?_⟩
        · rw [V1.scope]; exact k3
        · rw [V1.scope]; exact k2
        · show A.depth + 1 + 2 * r <= 850; lia
        · show A.units + 3 + 4 * r <= 8900; lia
      have y0 : ∀ {H' : Hid} {h' : Heap}, Ext (xs env) ⟨H.ρ, xs env ++ H.fr⟩ h₁ H' h' -> Ext [] H s.heap ⟨H'.ρ, H.fr⟩ h' := fun x1 => Ext.around' (ns := xs env) (Y := []) F.keep (by
        refine ob32 F.ns fun o _ _ e _ => ?_
        exact Nat.le_of_lt (Heap.lt_size e)) nsNew (fun b hb => .inl hb) x1 (fun _ _ _ e => e) (Nat.le_refl _)
      have hf0 : ∀ {H' : Hid} {h' : Heap}, Ext (xs env) ⟨H.ρ, xs env ++ H.fr⟩ h₁ H' h' -> ∀ b ∈ H.fr, b ∈ H'.fr := fun x1 b hb => by rw [x1.fr]; exact List.mem_append_right _ hb
      refine wpAny_mono ((b_all K X1 hcf fn.body).go ⟨_, rfl⟩ I1 V1 (bnd_inv hne)) (fun fl s' p => ?_) fun e s' p => False.elim p
      refine ob34 p fun fl' S' H' q1 x1 J R => ?_; clear p
      rw [bnd_at q1]
      have hf' := hf0 x1
      have J' := J.tail.leave (fr := H.fr) (h' := s'.heap) (tk := s'.toks) hf' I.frames fun _ _ _ e => e
      have y := y0 x1
      cases fl' with
      | next σ' =>
        cases fl with
        | next => exact mk34 .none S' _ rfl y J' .none
        | _ => exact R.elim
      | ret d =>
        cases fl with
        | ret v => exact mk34 d S' _ rfl y J' (Rd.less hf' R)
        | _ => exact R.elim
  · rw [if_neg hl] at hne; exact absurd rfl hne
set_option tactic.hygienic true in
theorem callF_ok (K : G.Ok) : ∀ n, CfOk G (callF G.C n) n
  | 0 => by
    intro X I hf FA rv
    exact fun h => absurd rfl h
  | n + 1 => by
    rename_i fs A H S s f fn a vs ds
    intro X I hf FA rv
    have q : callF G.C (n + 1) f ds = match fnLook G.C f with
      | some fn => runFn G.C (callF G.C n) fn ds
      | none => stk := rfl
    rw [q, hf]
    exact call_ok K (callF_ok K n) X.handled X.frames X.depth X.units I FA rv
end
end Mine
end

section
open PySem PySem.W PyProof.Rows
namespace Mine
noncomputable def strV : Value -> Option Str
  | .str x _ => some x
  | _ => none
noncomputable def intV : Value -> Option Int
  | .int i _ => some i
  | _ => none
noncomputable def refV : Value -> Option Addr
  | .ref a => some a
  | _ => none
theorem strV_inv {v : Value} {x : Str} (h : strV v = some x) : ∃ t, v = .str x t := by
  unfold strV at h
  split at h
  · cases h; exact mk11 _ rfl
  · cases h
theorem intV_inv {v : Value} {i : Int} (h : intV v = some i) : ∃ t, v = .int i t := by
  unfold intV at h
  split at h
  · cases h; exact mk11 _ rfl
  · cases h
theorem refV_inv {v : Value} {a : Addr} (h : refV v = some a) : v = .ref a := by
  unfold refV at h
  split at h
  · cases h; rfl
  · cases h
noncomputable def strK (v : Value) : D -> Bool
  | .str y => strV v == some y && PyData.strOk y && decide (y.length <= sizeLine)
  | _ => false
noncomputable def strsK : List Value -> List D -> Bool
  | [], [] => true
  | v :: vs, d :: ds => strK v d && strsK vs ds
  | _, _ => false
noncomputable def tupK (o : Option Obj) (ds : List D) : Bool := match o with
  | some ⟨.type c, none, .seq vs _, sl⟩ => c == "tuple" && sl.isEmpty && decide (vs.size <= sizeLine) && strsK vs.toList ds
  | _ => false
noncomputable def rdK (K : Heap) (v : Value) : D -> Bool
  | .int j => intV v == some j
  | .tuple ds => (match refV v with
    | some a => tupK (K.get? a) ds
    | none => false)
  | _ => false
theorem strK_ok {K : Heap} {P : Params} {v : Value} {d : D} (h : strK v d = true) : Rd P ⟨[], []⟩ K v d := by
  unfold strK at h
  split at h
  · rw [Bool.and_eq_true, Bool.and_eq_true, decide_eq_true_eq] at h
    refine ob11 (strV_inv (beq_iff_eq.mp h.1.1)) fun t er1 => ?_; subst er1
    exact .str _ _ h.1.2 h.2
  · cases h
theorem strsK_ok {K : Heap} {P : Params} : ∀ (ds : List D) (vs : List Value), strsK vs ds = true -> RdAll P ⟨[], []⟩ K vs ds
  | [], [], _ => .nil
  | [], _ :: _, e => by cases e
  | _ :: _, [], e => by cases e
  | d :: ds, v :: vs, e => by
    have e' : (strK v d && strsK vs ds) = true := e
    rw [Bool.and_eq_true] at e'
    exact .cons (strK_ok e'.1) (strsK_ok ds vs e'.2)
set_option tactic.hygienic true in
theorem rdK_ok {K : Heap} {P : Params} {v : Value} {d : D} (h : rdK K v d = true) : Rd P ⟨[], []⟩ K v d := by
  unfold rdK at h
  split at h
  · refine ob11 (intV_inv (beq_iff_eq.mp h)) fun t er1 => ?_; subst er1; exact .int _ _
  · split at h
    · rename_i a ha
      obtain rfl := refV_inv ha
      unfold tupK at h
      split at h
      · rename_i c vs n sl hl
        rw [Bool.and_eq_true, Bool.and_eq_true, Bool.and_eq_true, decide_eq_true_eq] at h
        have hh := hl
        rw [beq_iff_eq.mp h.1.1.1, show sl = #[] by simpa using h.1.1.2] at hh
        exact .tuple (by simp) (by simp) hh h.1.2 (strsK_ok _ _ h.2)
      · cases h
    · cases h
  · cases h
noncomputable def constK (K : Heap) (x : Str) (d : D) : Bool := match K.nsMap mainGlobals x with
  | some v => rdK K v d
  | none => false
theorem constK_ok {K : Heap} {P : Params} {x : Str} {d : D} (e : constK K x d = true) : ∃ v, K.nsMap mainGlobals x = some v /\ Rd P ⟨[], []⟩ K v d := by
  unfold constK at e
  split at e
  · exact mk12 _ ‹_› (rdK_ok e)
  · cases e
theorem mem_of_lookup {cs : List (Str × D)} {x : Str} {d : D} (h : cs.lookup x = some d) : (x, d) ∈ cs := by
  induction cs with
  | nil => cases h
  | cons p cs ih =>
    obtain ⟨y, e⟩ := p
    rw [List.lookup_cons] at h
    by_cases hx : (x == y) = true
    · rw [hx] at h; cases h; rw [beq_iff_eq.mp hx]; exact List.mem_cons_self ..
    · have hx' : (x == y) = false := by simpa using hx
      rw [hx'] at h; exact List.mem_cons_of_mem _ (ih h)
noncomputable def Says (cs : List (Str × D)) (w : World) (h : Heap) : Prop :=
  ∃ mg, h.Ns mainGlobals mg /\ (∀ x d, cs.lookup x = some d -> ∃ v, mg x = some v /\ Rd w.params ⟨[], []⟩ h v d)
noncomputable def myHook (cs : List (Str × D)) : Hook where
  α := Bool
  obs s := s.heap.isNs mainGlobals && (cs.all fun p => constK s.heap p.1 p.2)
  val _ := true
  says := Says cs
  of w s e := by
    have e1 : (_ && _) = true := e
    rw [Bool.and_eq_true] at e1
    exact mk12 _ (.of_isNs e1.1) (fun x d hl => constK_ok (List.all_eq_true.mp e1.2 (x, d) (mem_of_lookup hl)))
  keeps w h h' p k := by
    refine ob12 p fun mg h1 h2 => ?_; clear p
    refine mk12 mg (h1.keeps k) (fun x d hl => ?_)
    refine ob12 (h2 x d hl) fun v e1 e2 => ?_
    exact mk12 v e1 (Rd.ext (H := ⟨[], []⟩) (H' := ⟨[], []⟩) (fun b o a c e => ⟨a, c, k b o e⟩) (fun _ _ e => e) e2)
theorem Says.const {cs : List (Str × D)} {w : World} {h : Heap} {mg : Str -> Option Value} (p : Says cs w h) (g : h.Ns mainGlobals mg) {x : Str} {d : D} (hl : cs.lookup x = some d) : ∃ v, mg x = some v /\ Rd w.params ⟨[], []⟩ h v d := by
  refine ob12 p fun mg' h1 h2 => ?_; clear p
  have : mg' = mg := h1.eq_nsMap.trans g.eq_nsMap.symm
  subst this
  exact h2 x d hl
end Mine
end

section
open PySem PySem.W PyProof.Rows
namespace Mine
noncomputable def fnsR (q : Program) : List (Str × Fn) := (recsOf q).map fun d => (d.name, ⟨d.params.args.map (·.arg), d.body, d.scope⟩)
noncomputable def plainP (p : Arguments) : Bool := p.posonlyargs.isEmpty && p.vararg.isNone && p.kwonlyargs.isEmpty && p.kwarg.isNone
noncomputable def statOk (q : Program) : Bool := (recsOf q).all fun d => plainP d.params && fnOk ⟨d.params.args.map (·.arg), d.body, d.scope⟩
noncomputable def missOk (q : Program) (loose : List Str) : Bool := biNames.all fun x => !startupNames.contains x && !loose.contains x && !((recsOf q).map (·.name)).contains x && !((litsOf q).map (·.1)).contains x && !((clssOf q loose).map (·.name)).contains x
theorem zip_lookup_some : ∀ {ps : List Str} {vs : List Value}, vs.length = ps.length -> ∀ x ∈ ps, ((ps.zip vs).lookup x).isSome = true
  | [], _, _, x, h => by cases h
  | p :: ps, [], hl, _, _ => by simp at hl
  | p :: ps, v :: vs, hl, x, h => by
    rw [List.zip_cons_cons, List.lookup_cons]
    by_cases hx : (x == p) = true
    · rw [hx]; rfl
    · have hx' : (x == p) = false := by simpa using hx
      rw [hx']
      rcases List.mem_cons.mp h with e | h
      · rw [e] at hx; simp at hx
      · exact zip_lookup_some (by simpa using hl) x h
theorem filterMap_zip : ∀ {ps : List Str} {vs : List Value}, ps.Nodup -> vs.length = ps.length -> ∀ pre : List (Str × Value), (∀ p ∈ pre, p.1 ∉ ps) -> ps.filterMap (fun n => ((pre ++ ps.zip vs).lookup n).map (n, ·)) = ps.zip vs
  | [], vs, _, _, _, _ => by simp
  | p :: ps, [], _, hl, _, _ => by simp at hl
  | p :: ps, v :: vs, hn, hl, pre, hp => by
    rw [List.nodup_cons] at hn
    have look : ∀ (l : List (Str × Value)), (∀ q ∈ l, q.1 ≠ p) -> ((l ++ (p, v) :: ps.zip vs).lookup p) = some v := by
      intro l
      induction l with
      | nil => intro _; simp [List.lookup_cons]
      | cons a l ih =>
        intro h
        have h1 : p ≠ a.1 := fun e => h a (List.mem_cons_self ..) e.symm
        rw [List.cons_append, List.lookup_cons, beq_false_of_ne h1]
        exact ih fun q hq => h q (List.mem_cons_of_mem _ hq)
    rw [List.zip_cons_cons, List.filterMap_cons, look pre fun q hq e => hp q hq (by rw [e]; exact List.mem_cons_self ..)]
    have := filterMap_zip hn.2 (by simpa using hl) (pre ++ [(p, v)]) (by
      intro q hq
      rcases List.mem_append.mp hq with z | z
      · exact fun e => hp q z (List.mem_cons_of_mem _ e)
      · simp only [List.mem_singleton] at z; rw [z]; exact hn.1)
    rw [List.append_assoc] at this
    simp only [Option.map_some]
    congr 1
theorem bind_plain2 {f fq : Str} {ar : List Arg} {kd : List (Option Expr)} {df : List Expr} {body : List Stmt} {scope : Scope} {pm code doc : Value} {vs : List Value} (hn : (ar.map (·.arg)).Nodup) (hl : vs.length = (ar.map (·.arg)).length) :
    bindArgs (methDef f fq ⟨[], ar, none, [], kd, none, df⟩ body scope pm code doc) ⟨vs, []⟩ = pure ((ar.map (·.arg)).zip vs) := by
  have e2 : (List.filter (fun n => (List.lookup n ((ar.map (·.arg)).zip vs)).isNone) (List.take (ar.map (·.arg)).length (ar.map (·.arg)))) = [] := by
    rw [List.take_length, List.filter_eq_nil_iff]
    intro x hx
    have := zip_lookup_some hl x hx
    rw [Bool.not_eq_true, Option.isNone_eq_false_iff]; exact this
  have e3 := filterMap_zip hn hl [] (by simp)
  have e1 : (decide (vs.length > (ar.map (·.arg)).length) && true) = false := by rw [hl]; simp
  unfold bindArgs methDef
  dsimp only
  rw [List.nil_append] at e3
  have e0 : seqItems? Value.none = pure none := rfl
  generalize ar.map (·.arg) = ps at *
  simp only [List.map_nil, List.nil_append, List.append_nil, List.forIn_nil, pure_bind, e0, e1, Option.isNone_none, Bool.false_eq_true, if_false, Option.getD_none, List.length_nil, Nat.sub_zero, List.drop_nil, e2, List.isEmpty_nil, Bool.not_true, List.zip_nil_right, e3]
theorem bind_plain {f fq : Str} {params : Arguments} {body : List Stmt} {scope : Scope} {pm code doc : Value} {vs : List Value} (hp : plainP params = true) (hn : (params.args.map (·.arg)).Nodup) (hl : vs.length = (params.args.map (·.arg)).length) :
    bindArgs (methDef f fq params body scope pm code doc) ⟨vs, []⟩ = pure ((params.args.map (·.arg)).zip vs) := by
  obtain ⟨po, ar, va, ko, kd, ka, df⟩ := params
  unfold plainP at hp
  simp only [Bool.and_eq_true, List.isEmpty_iff, Option.isNone_iff_eq_none] at hp
  obtain ⟨⟨⟨p1, p2⟩, p3⟩, p4⟩ := hp
  subst p1; subst p2; subst p3; subst p4
  exact bind_plain2 hn hl
theorem walls {q : Program} {d : DefRec} (h : d ∈ recsOf q) (hs : statOk q = true) : plainP d.params = true /\ fnOk ⟨d.params.args.map (·.arg), d.body, d.scope⟩ = true := by
  unfold statOk at hs
  rw [List.all_eq_true] at hs
  have := hs d h
  rwa [Bool.and_eq_true] at this
theorem fns_mem {q : Program} {f : Str} {fn : Fn} (h : (fnsR q).lookup f = some fn) : ∃ d ∈ recsOf q, d.name = f /\ fn = ⟨d.params.args.map (·.arg), d.body, d.scope⟩ := by
  have := lookup_memP h
  unfold fnsR at this
  refine ob12 (List.mem_map.mp this) fun d hd e => ?_
  cases e
  exact mk13 d hd rfl rfl
theorem ints_rd {P : Params} {h : Heap} : ∀ {vs : List Value} {xs : List Int}, WellAll P h vs (ofPys (xs.map PyData.int)) -> RdAll P ⟨[], []⟩ h vs (xs.map D.int)
  | _, [], w => by
    have w' : WellAll P h _ [] := w
    cases w'; exact .nil
  | _, x :: xs, w => by
    have w' : WellAll P h _ (WData.int x :: ofPys (xs.map PyData.int)) := w
    cases w' with | cons a b =>
    cases a
    exact .cons (.int _ _) (ints_rd b)
set_option tactic.hygienic true in
theorem law_walk {l : OpenLaw} {q : Program} {loose : List Str} {XP : (Str -> Option Value) -> Heap -> Prop} {YP : World -> Heap -> Prop} {d : DefRec} {kwd : List (Str × Expr)} (hm : l.most = some 63) (hb : l.bound = none) (C : Cfg) (n : Nat) (fn : Fn)
    (hn : n <= 250) (hfns : C.fns = fnsR q) (hst : statOk q = true) (hmiss : missOk q (looseW q loose) = true) (himp : importsNone q = true) (htree : l.prog.given.tree = none)
    (hconst : ∀ (w : World) (h : Heap) (mg : Str -> Option Value), YP w h -> h.Ns mainGlobals mg -> ∀ x d, C.consts.lookup x = some d -> ∃ v, mg x = some v /\ Rd w.params ⟨[], []⟩ h v d)
    (hmeths : ∀ m i, C.meths.lookup m = some i -> MImpl.Sound m i) (hbfs : ∀ x i, C.bfs.lookup x = some i -> BImpl.Sound x i) (hcls : ∀ G : Glo, G.C = C -> G.B.heap.Ns mainGlobals G.mg -> YP G.w G.B.heap -> ∀ c, C.clss.contains c = true -> ∃ Ca N mN, ClsOk G c Ca N mN) (hlaw : C.fns.lookup d.name = some fn) (law : ∀ xs : List Int, xs.length <= 63 -> ∃ S', runFn C (callF C n) fn [.list (xs.map D.int)] [] = .ok (.bool true) S') :
    WalkO q loose XP YP l.row.toRowW d kwd (fun f vs => PySem.call f vs) := by
  intro w s₀ s₁ mg mb G Y fa o pm cd doc dV kV ho hd hcd hD hmg hg args vals as hpre hlay hrd hwl hlo
  have hsh := (pre_splitW hpre).1
  have hcond := (pre_splitW hpre).2
  have hsh' : WShape.hasAll [] args [.list .int] = true := hsh
  have hcond' : l.pre.holds [] { args := args } = true := hcond
  have hrd' : ReadsAllW [] (classAt s₀.heap) s₁.heap vals args as := hrd
  unfold OpenLaw.pre at hcond'
  rw [hm, hb] at hcond'
  clear hsh hcond hrd
  wrow_hasAll hsh' hlay
  wrow_readAll hrd' hwl hlo
  w_cond hcond'
  rename_i xs _ _ _ _ _ _ _ ra vs0 _ hL _ w1 _ _ _ hlen _
  have T := G.T
  have hlen' : xs.length <= 63 := by lia
  let GG : Glo := ⟨l.prog, w, C, s₁, mg, mb⟩
  have K : GG.Ok := {
    g := T.g
    b := T.b
    nolimit := T.nolimit
    seer := T.seer himp
    tree := htree
    builtins := T.builtins
    fn := fun f fn' hf => by
      have hf' : (fnsR q).lookup f = some fn' := hfns ▸ hf
      refine ob13 (fns_mem hf') fun dd hdd er1 er2 => ?_; subst er1; subst er2
      refine ob54 (T.fn dd hdd) fun a o pm code doc e1 e2 e3 e4 => ?_
      refine ob02 (walls hdd hst) fun w1 w2 => ?_
      exact ⟨a, e1, o, dd.name, dd.name, dd.params, pm, code, doc, e2, e3, e4, w2, fun vs hl => bind_plain w1 (fnOk_inv w2).2.2.2.1 hl⟩
    miss := fun x hx => by
      have h0 : missOk q (looseW q loose) = true := hmiss
      unfold missOk at h0
      rw [List.all_eq_true] at h0
      have := h0 x hx
      simp only [Bool.and_eq_true, Bool.not_eq_true', List.contains_eq_mem, decide_eq_false_iff_not] at this
      obtain ⟨⟨⟨⟨a1, a2⟩, a3⟩, a4⟩, a5⟩ := this
      exact T.free x a1 a2 a3 a4 a5
    const := fun x d hx => hconst w s₁.heap mg Y T.g x d hx
    meths := hmeths
    bfs := hbfs
    cls := hcls GG rfl T.g Y }
  have I : Inv GG [] ⟨[], []⟩ [] s₁ := ⟨fun _ _ e => e, by simp, by simp, by simp, by simp, by simp, rfl, by simp, (fun _ he => nomatch he), hg, rfl⟩
  have hw : Well w.params s₁.heap (.ref ra) (.list (ofPys (xs.map PyData.int))) := w1
  have rv : Rd w.params ⟨[], []⟩ s₁.heap (.ref ra) (.list (xs.map D.int)) := by
    cases hw with | list e1 e2 =>
    have r := ints_rd e2
    refine .list (by simp) (by simp) e1 ?_ (by simpa using r)
    have := r.length
    simp only [List.length_map] at this
    show _ <= 16777216
    simp only [List.size_toArray]
    lia
  refine ob11 (law xs hlen') fun S' hS' => ?_
  refine ob12 (K.fn _ _ hlaw) fun fa' ea' FL => ?_
  rw [show GG.mg d.name = some (.ref fa) from hmg] at ea'; cases ea'
  have W := call_ok (G := GG) (A := callerA) (fs := []) K (callF_ok K n) rfl rfl (by
    show 1 + claimMargin + 2 * (n + 1) <= 851
    have : claimMargin = 300 := by decide
    lia) (by show 4 + 4 * (n + 1) <= 8901; lia) I FL (RdAll.cons rv .nil)
  have hne : runFn GG.C (callF GG.C n) fn [.list (xs.map D.int)] [] ≠ .stuck := by
    show runFn C (callF C n) fn [.list (xs.map D.int)] [] ≠ .stuck
    rw [hS']; intro q; cases q
  refine wpAny_mono (W hne) (fun v s' p => ?_) fun _ _ p => False.elim p
  refine ob34 p fun a S2 H2 e1 x J r => ?_; clear p
  have e1' : runFn C (callF C n) fn [.list (xs.map D.int)] [] = .ok a S2 := e1
  rw [hS'] at e1'
  cases e1'
  cases r
  refine GoodW.toG ⟨.inl ⟨.bool true, .bool true, [], rfl, fun _ => rfl, .bool true, ?_, fun _ => ⟨List.nodup_nil, by simp⟩⟩, J.stays, J.os, J.gens⟩
  first | wrow_post | (with_unfolding_all rfl)
end Mine
end

section
open PySem PySem.W PyProof.Rows
namespace Mine
noncomputable def ClsSays (c : ClsRec) (h : Heap) : Prop := ∃ mg C N mN, h.Ns mainGlobals mg /\ mg c.name = some (.ref C) /\ PlainAt h c C N mN
noncomputable def clsHook (H : Hook) (c : ClsRec) : Hook where
  α := H.α × Bool × Option PlainShape
  obs s := (H.obs s, s.heap.isNs mainGlobals, s.heap.plainShapeAt c)
  val w := (H.val w, true, some c.plainShape)
  says w h := H.says w h /\ ClsSays c h
  of w s e := by
    have e1 : H.obs s = H.val w := congrArg Prod.fst e
    have e2 : s.heap.isNs mainGlobals = true := congrArg (fun x => x.2.1) e
    have e3 : s.heap.plainShapeAt c = some c.plainShape := congrArg (fun x => x.2.2) e
    refine ob22 (plainAt_of_shape e3) fun C N h1 P => ?_
    exact ⟨H.of w s e1, _, C, N, _, .of_isNs e2, h1, P⟩
  keeps w h h' p k := by
    obtain ⟨p1, mg, C, N, mN, g, h1, P⟩ := p
    exact ⟨H.keeps w h h' p1 k, mg, C, N, mN, g.keeps k, h1, P.keeps k⟩
theorem mname_inj {c m m' : Str} (h : mname c m = mname c m') : m = m' := by
  have h1 : (c.cps ++ (Str.ofString ".").cps) ++ m.cps = (c.cps ++ (Str.ofString ".").cps) ++ m'.cps := congrArg Str.cps h
  cases m; cases m'
  exact congrArg Str.mk (Array.append_right_inj _ |>.mp h1)
noncomputable def cfsR (c : ClsRec) : List (Str × Fn) := c.meths.map fun m => (mname c.name m.name, ⟨m.params.args.map (·.arg), m.body, m.scope⟩)
theorem tl_object (x : Str) : ∃ y, typeLookup (.type "object") x = pure y := by
  rw [typeLookup_type]
  cases h : builtinLookup "object" x with
  | some r => exact mk11 r rfl
  | none =>
    exfalso
    unfold builtinLookup at h
    have h' : (some _ : Option (Option Value)) = none := h
    cases h'
theorem clsOk_of {G : Glo} {c : ClsRec} (h : ClsSays c G.B.heap) (g : G.B.heap.Ns mainGlobals G.mg) (hc : G.C.cfs = cfsR c)
    (hs : (c.meths.all fun m => plainP m.params && fnOk ⟨m.params.args.map (·.arg), m.body, m.scope⟩) = true)
    (hatt : ∀ x, G.C.att c.name x = true -> x ∈ c.statics /\ typeLookup (.type "object") x = pure none) : ∃ Ca N mN, ClsOk G c.name Ca N mN := by
  refine ob43 h fun mg Ca N mN g' h1 P => ?_; clear h
  have : mg = G.mg := g'.eq_nsMap.trans g.eq_nsMap.symm
  subst this
  refine ⟨Ca, N, mN, h1, P.cls, P.quiet _ ?_, P.quiet _ ?_, P.quiet _ ?_, fun x hx => ?_, fun m fn hl => ?_⟩
  · exact List.mem_append_left _ (.tail _ (.head _))
  · exact List.mem_append_left _ (.tail _ (.tail _ (.head _)))
  · exact List.mem_append_left _ (.head _)
  · exact ⟨P.quiet _ (List.mem_append_right _ (hatt x hx).1), (hatt x hx).2⟩
  · rw [hc] at hl
    refine ob12 (List.mem_map.mp (lookup_memP hl)) fun r hr e => ?_
    refine ob02 (Prod.mk.inj e) fun e1 e2 => ?_
    have em := mname_inj e1
    subst em
    subst e2
    refine ob55 (P.meths r hr) fun f o pm cd doc q1 q2 q3 q4 q5 => ?_
    have hh := List.all_eq_true.mp hs r hr
    rw [Bool.and_eq_true] at hh
    exact mk14 f q1 ⟨o, r.name, c.name ++ "." ++ r.name, r.params, pm, cd, doc, q2, q4, q5, hh.2, fun vs hv => bind_plain hh.1 (fnOk_inv hh.2).2.2.2.1 hv⟩ ⟨o, q2, q3⟩ (tl_object _)
end Mine
end

set_option Elab.async false
open PySem PySem.W PyProof.Rows
namespace Mine.L11
set_option tactic.hygienic true in
theorem meths_ok (m : Str) (i : Mine.MImpl) (h : C11.meths.lookup m = some i) : Mine.MImpl.Sound m i := by
  have h' : List.lookup m meths11 = some i := h
  unfold meths11 at h'
  rw [List.lookup_cons] at h'
  split at h'
  · rename_i q; cases h'; rw [beq_iff_eq.mp q]; exact Mine.mJoin_sound
  · rw [List.lookup_cons] at h'
    split at h'
    · rename_i q; cases h'; rw [beq_iff_eq.mp q]; exact Mine.mIndex_sound
    · rw [List.lookup_cons] at h'
      split at h'
      · rename_i q; cases h'; rw [beq_iff_eq.mp q]; exact Mine.mGet1_sound
      · rw [List.lookup_cons] at h'
        split at h'
        · rename_i q; cases h'; rw [beq_iff_eq.mp q]; exact Mine.mAppend_sound
        · cases h'
set_option tactic.hygienic true in
theorem bfs_ok (m : Str) (i : Mine.BImpl) (h : C11.bfs.lookup m = some i) : Mine.BImpl.Sound m i := by
  have h' : List.lookup m bfs11 = some i := h
  unfold bfs11 at h'
  rw [List.lookup_cons] at h'
  split at h'
  · rename_i q; cases h'; rw [beq_iff_eq.mp q]; exact Mine.bSortB_sound
  · rw [List.lookup_cons] at h'
    split at h'
    · rename_i q; cases h'; rw [beq_iff_eq.mp q]; exact Mine.bMin2_sound
    · rw [List.lookup_cons] at h'
      split at h'
      · rename_i q; cases h'; rw [beq_iff_eq.mp q]; exact Mine.bAny_sound
      · cases h'
noncomputable abbrev pr11 : Program := PySem.Challenge.rw_uf010036_11.row.prog
noncomputable abbrev q11 : Program := view pr11 [1, 2, 4, 5, 6, 8, 9, 10, 12, 13, 14, 15, 16, 18, 19, 20, 21, 22, 23, 24, 25, 26, 27, 28]
noncomputable def c11 : ClsRec := (clsOf? q11 (Str.ofString "Search")).get (by kernel_rfl)
noncomputable abbrev hk11 : Hook := clsHook (myHook consts11) c11
theorem left11 : LeftO pr11 q11 [] (fun s => xlAt q11 [] s && recOk (RowW.records PySem.Challenge.rw_uf010036_11.row.toRowW) s) hk11.obs hk11.val 3128 := fun w => by kernel_rfl
noncomputable def dk11 : DefRec × List (Str × Expr) := (defOf q11 PySem.Challenge.rw_uf010036_11.row.name).get (by kernel_rfl)
theorem c11_name : c11.name = Str.ofString "Search" := by kernel_rfl
theorem c11_cfs : C11.cfs = cfsR c11 := by kernel_rfl
theorem c11_stat : (c11.meths.all fun m => plainP m.params && fnOk ⟨m.params.args.map (·.arg), m.body, m.scope⟩) = true := by kernel_rfl
theorem c11_att (x : Str) (h : C11.att c11.name x = true) : x ∈ c11.statics /\ typeLookup (.type "object") x = pure none := by
  have h' : (c11.name == Str.ofString "Search" && (x == Str.ofString "order" || x == Str.ofString "places" || x == Str.ofString "made")) = true := h
  simp only [Bool.and_eq_true, Bool.or_eq_true, beq_iff_eq] at h'
  rcases h'.2 with (rfl | rfl) | rfl
  · exact ⟨List.contains_iff_mem.mp (by kernel_rfl), by rw [typeLookup_type, builtinLookup_eq_fast]; kernel_rfl⟩
  · exact ⟨List.contains_iff_mem.mp (by kernel_rfl), by rw [typeLookup_type, builtinLookup_eq_fast]; kernel_rfl⟩
  · exact ⟨List.contains_iff_mem.mp (by kernel_rfl), by rw [typeLookup_type, builtinLookup_eq_fast]; kernel_rfl⟩
theorem clss_ok (G : Glo) (e : G.C = C11) (g : G.B.heap.Ns mainGlobals G.mg) (Y : hk11.says G.w G.B.heap) (c : Str) (hc : C11.clss.contains c = true) : ∃ Ca N mN, ClsOk G c Ca N mN := by
  have h1 : c = c11.name := by
    rw [c11_name]
    exact List.mem_singleton.mp (List.contains_iff_mem.mp hc)
  subst h1
  exact clsOk_of Y.2 g (by rw [e]; exact c11_cfs) c11_stat (by rw [e]; exact c11_att)
theorem walk11 : ∀ {d : DefRec} {kwd : List (Str × Expr)}, C11.fns.lookup d.name = some f_law -> WalkO q11 [] (XL q11 []) hk11.says PySem.Challenge.rw_uf010036_11.row.toRowW d kwd (fun f vs => PySem.call f vs) := fun hd =>
  law_walk rfl rfl C11 240 f_law (by decide) (by kernel_rfl) (by kernel_rfl) (by kernel_rfl) (by kernel_rfl) rfl (fun w h mg Y g x d hl => Says.const (show Says consts11 w h from Y.1) g hl) meths_ok bfs_ok clss_ok hd fun xs _ => law_run xs
end Mine.L11
theorem PySem.Challenge.cw_uf010036_11_holds : PySem.Challenge.rw_uf010036_11.Holds :=
  holds_law (by kernel_rfl) fun said => holds_open (d := Mine.L11.dk11.1) (kwd := Mine.L11.dk11.2) Mine.L11.left11 Mine.L11.hk11.of Mine.L11.hk11.keeps (fun s e => xl_of s (Bool.and_eq_true_iff.mp e).1) XL.keeps (by kernel_rfl) (by kernel_rfl) (by kernel_rfl) (fun s e => recFacts_of (Bool.and_eq_true_iff.mp e).2) rfl said (by decide +kernel) ⟨rfl, rfl, rfl, rfl, rfl, by decide +kernel⟩ (by w_witness2) (Mine.L11.walk11 (by kernel_rfl))
#print axioms PySem.Challenge.cw_uf010036_11_holds

