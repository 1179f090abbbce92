import PyProof.Rows.All
import Wide.Call
import PyProof.StrBlockL
import PyProof.P3Statements
import PyProof.CompFree
import PyProof.ListOps
import PyProof.TupleOps
import PyProof.RaisesMany
import PyProof.DefCall
import PyProof.NoPylong
import PyProof.Cells
import OpenK.KCall
import PyProof.ToksMono
import PyProof.ListMulRoad
import PyProof.AutoSeq1
import PyProof.FactsAll.tuple
import PyProof.StrCalls
import PyProof.Rows.StrFit
import PyProof.WalkInts
import KE.KRevIter
import PyProof.CollectIter
import PyProof.TupleOfGen
import PyProof.Rows.Tup
import PyProof.ListIndex
import Wide.All
import OpenK.AllK
import Wide.FinOn
import Open.Head
import PySem.Str
import PyProof.TableCode
import PySem.Challenge.RW_uf010036_08
set_option Elab.async false
set_option linter.unusedVariables false
set_option linter.unusedSimpArgs false

section
set_option maxRecDepth 100000
set_option genSizeOf false
set_option genInjectivity false
namespace Mine
open PySem

/-- data of the fragment -/
inductive D where
  | none
  | bool (b : Bool)
  | int (i : Int)
  | str (x : Str)
  | tuple (ds : List D)
  | list (ds : List D)
  | dict (kvs : List (Str × D))
  | range (a b : Int)
  | exn (c : Str)
  | loc (n : Nat)

/-- objects of the store: what is changed in place -/
inductive SObj where
  | list (ds : List D)
  | dict (kvs : List (Str × D))
noncomputable abbrev Store := List SObj

inductive Out (α : Type) where
  | ok (a : α) (S : Store)
  | exc (c : Str) (S : Store)
  | stuck
noncomputable abbrev EM (α : Type) := Store → Out α
noncomputable def ret {α : Type} (a : α) : EM α := fun S => .ok a S
noncomputable def stk {α : Type} : EM α := fun _ => .stuck
noncomputable def thr {α : Type} (c : Str) : EM α := fun S => .exc c S
noncomputable def bnd {α β : Type} (m : EM α) (f : α → EM β) : EM β := fun S => match m S with
  | .ok a S' => f a S'
  | .exc c S' => .exc c S'
  | .stuck => .stuck
/-- exceptions are not served here -/
noncomputable def calm {α : Type} (m : EM α) : EM α := fun S => match m S with
  | .ok a S' => .ok a S'
  | .exc _ _ => .stuck
  | .stuck => .stuck
noncomputable def optM {α : Type} (o : Option α) : EM α := match o with
  | some a => ret a
  | none => stk

structure Fn where
  params : List Str
  body : List Stmt
  scope : Scope
/-- a method: which things have it, what it gives, its built-in name -/
structure MImpl where
  ok : Store → D → Bool
  run : D → List D → EM D
  id : D → String
/-- a built-in function: what it is, what it gives (at a place whose lists are owned, or not) -/
structure BImpl where
  val : Value
  run : Bool → List D → EM D
structure Cfg where
  fns : List (Str × Fn)
  consts : List (Str × D)
  excs : List (Str × List Str) := []
  own : Pos → Bool := fun _ => false
  turns : Nat := 2 ^ 30
  meths : List (Str × MImpl) := []
  bfs : List (Str × BImpl) := []
  rev : Bool := false
  mul : Pos → Bool := fun _ => false
  frz : Pos → Bool := fun _ => false

mutual
noncomputable def D.py : D → Option PyData
  | .none => some .none
  | .bool b => some (.bool b)
  | .int i => some (.int i)
  | .str x => some (.str x)
  | .tuple ds => (D.pys ds).map .tuple
  | .list ds => (D.pys ds).map .list
  | .dict _ | .range _ _ | .exn _ | .loc _ => Option.none
noncomputable def D.pys : List D → Option (List PyData)
  | [] => some []
  | d :: ds => match D.py d, D.pys ds with
    | some p, some ps => some (p :: ps)
    | _, _ => Option.none
end

/-- a datum as the store has it -/
noncomputable def pyAt (S : Store) : D → Option PyData
  | .loc n => match S[n]? with
    | some (.list ds) => (D.pys ds).map .list
    | _ => none
  | d => d.py

noncomputable def slot : List (Str × NameKind) → Str → Option (Nat × NameKind)
  | [], _ => none
  | (y, k) :: r, x => if x == y then some (0, k) else match slot r x with
    | some (i, k) => some (i + 1, k)
    | none => none

noncomputable abbrev Sg := List (Option D)
noncomputable def lk (σ : Sg) (i : Nat) : EM D := match σ[i]? with
  | some (some d) => ret d
  | _ => stk
noncomputable def put (σ : Sg) (i : Nat) (d : D) : Sg := σ.set i (some d)

noncomputable def nameD (C : Cfg) (sc : Scope) (σ : Sg) (x : Str) : EM D := if x == ("__debug__" : Str) then stk else match slot sc.names x with
  | some (i, .local) => lk σ i
  | some (i, .cell) => lk σ i
  | some (_, .globalImplicit) => optM (C.consts.lookup x)
  | _ => stk

noncomputable def isGlobal (sc : Scope) (x : Str) : Bool := if x == ("__debug__" : Str) then false else match slot sc.names x with
  | some (_, .globalImplicit) => true
  | _ => false

/-- the items of a list, frozen or in the store -/
noncomputable def listOf (S : Store) : D → Option (List D)
  | .list ds => some ds
  | .loc n => match S[n]? with
    | some (.list ds) => some ds
    | _ => none
  | _ => none

noncomputable def truth (S : Store) : D → Option Bool
  | .none => some false
  | .bool b => some b
  | .int i => some (i != 0)
  | .str x => some (x.length != 0)
  | .tuple ds => some (!ds.isEmpty)
  | .list ds => some (!ds.isEmpty)
  | .loc n => (listOf S (.loc n)).map fun ds => !ds.isEmpty
  | _ => none
noncomputable def truthM (d : D) : EM Bool := fun S => optM (truth S d) S

noncomputable def mkList (C : Cfg) (pos : Pos) (ds : List D) : EM D :=
  if C.own pos then fun S => .ok (.loc S.length) (S ++ [.list ds]) else ret (.list ds)

noncomputable def mkL (own : Bool) (ds : List D) : EM D := if own then fun S => .ok (.loc S.length) (S ++ [.list ds]) else ret (.list ds)
noncomputable def small (i : Int) : Bool := decide (i.natAbs < 2 ^ 62)

noncomputable def addLists (C : Cfg) (pos : Pos) (a b : D) : EM D := fun S => match listOf S a, listOf S b with
  | some xs, some ys => if xs.length + ys.length ≤ sizeLine then mkList C pos (xs ++ ys) S else .stuck
  | _, _ => .stuck

noncomputable def onInts {β : Type} (a b : D) (k : Int → Int → EM β) (z : EM β) : EM β := match a with
  | .int i => (match b with
    | .int j => k i j
    | _ => z)
  | _ => z
noncomputable def onStrs {β : Type} (a b : D) (k : Str → Str → EM β) (z : EM β) : EM β := match a with
  | .str i => (match b with
    | .str j => k i j
    | _ => z)
  | _ => z
noncomputable def onTups {β : Type} (a b : D) (k : List D → List D → EM β) (z : EM β) : EM β := match a with
  | .tuple i => (match b with
    | .tuple j => k i j
    | _ => z)
  | _ => z
/-- a tuple times 0 or 1 -/
noncomputable def mulT (a b : D) : EM D := match a with
  | .tuple ds => (match b with
    | .int j => if ds.isEmpty then stk else if j = 0 then ret (.tuple []) else if j = 1 then ret (.tuple ds) else stk
    | _ => stk)
  | _ => stk
noncomputable def binop (C : Cfg) (pos : Pos) (op : Operator) (a b : D) : EM D := match op with
  | .Add => onInts a b (fun i j => ret (.int (i + j))) (onStrs a b (fun x y => if x.length + y.length ≤ sizeLine then ret (.str (x ++ y)) else stk)
      (onTups a b (fun xs ys => if xs.length + ys.length ≤ sizeLine then ret (.tuple (xs ++ ys)) else stk) (addLists C pos a b)))
  | .Sub => onInts a b (fun i j => ret (.int (i - j))) stk
  | .Mult => onInts a b (fun i j => if small i && small j then ret (.int (i * j)) else stk) (if C.mul pos then mulT a b else stk)
  | .FloorDiv => onInts a b (fun i j => if j = 0 then stk else ret (.int (i.fdiv j))) stk
  | .Mod => onInts a b (fun i j => if j = 0 then stk else ret (.int (i.fmod j))) stk
  | .Pow => onInts a b (fun i j => if decide (i = 10) && decide (0 ≤ j) && decide (j ≤ 40) then ret (.int (10 ^ j.toNat)) else stk) stk
  | _ => stk

noncomputable def unop (op : UnaryOp) (a : D) : EM D := match op with
  | .USub => (match a with
    | .int i => ret (.int (-i))
    | _ => stk)
  | .Not => bnd (truthM a) fun b => ret (.bool (!b))
  | _ => stk

noncomputable def lineOf (p q : PyData) : Bool := decide (min p.depth q.depth ≤ 600)
noncomputable def eqM (a b : D) : EM Bool := fun S => match pyAt S a, pyAt S b with
  | some p, some q => if lineOf p q then .ok (PyData.eqv p q) S else .stuck
  | _, _ => .stuck
noncomputable def anyEq (ps : List PyData) (q : PyData) : Option Bool :=
  if decide (min (PyData.depthAll ps) q.depth ≤ 600) then some (ps.any fun p => PyData.eqv p q) else none
noncomputable def strIn (x y : Str) : Bool := !(Builtin.Str.occurrences y x 0 y.length 1).isEmpty
noncomputable def inL (ds : List D) (a : D) : EM Bool := fun S => match D.pys ds with
  | some ps => (match pyAt S a with
    | some q => optM (anyEq ps q) S
    | none => .stuck)
  | none => .stuck
noncomputable def inM (a b : D) : EM Bool := match b with
  | .str y => (match a with
    | .str x => ret (strIn x y)
    | _ => stk)
  | .dict kvs => (match a with
    | .str x => ret (kvs.lookup x).isSome
    | _ => stk)
  | .tuple ds => inL ds a
  | .list ds => inL ds a
  | .loc n => fun S => (match listOf S (.loc n) with
    | some ds => inL ds a S
    | none => .stuck)
  | _ => stk
noncomputable def isM (a b : D) : EM Bool := match b with
  | .none => (match a with
    | .none => ret true
    | _ => ret false)
  | .bool c => (match a with
    | .bool b => ret (b == c)
    | _ => ret false)
  | _ => stk
noncomputable def cmpM (op : CmpOp) (a b : D) : EM Bool := match op with
  | .Eq => eqM a b
  | .NotEq => bnd (eqM a b) fun c => ret (!c)
  | .Lt => onInts a b (fun i j => ret (decide (i < j))) (onStrs a b (fun x y => ret (decide (x.cps.toList < y.cps.toList))) stk)
  | .LtE => onInts a b (fun i j => ret (decide (i ≤ j))) stk
  | .Gt => onInts a b (fun i j => ret (decide (j < i))) stk
  | .GtE => onInts a b (fun i j => ret (decide (j ≤ i))) (onStrs a b (fun x y => ret (!decide (x.cps.toList < y.cps.toList))) stk)
  | .Is => isM a b
  | .IsNot => bnd (isM a b) fun c => ret (!c)
  | .In => inM a b
  | .NotIn => bnd (inM a b) fun c => ret (!c)

noncomputable def clip (v : Option Int) (dflt : Nat) (n : Nat) : Nat := match v with
  | none => dflt
  | some i => (max 0 (min (if i < 0 then i + n else i) n)).toNat
noncomputable def cut {α : Type} (lo hi : Option Int) (l : List α) : List α :=
  (l.drop (clip lo 0 l.length)).take (clip hi l.length l.length - clip lo 0 l.length)
noncomputable def partOf : D → Option (Option Int)
  | .none => some none
  | .int i => some (some i)
  | _ => none
noncomputable def sliceM (C : Cfg) (pos : Pos) (a lo hi : D) : EM D := fun S => match partOf lo, partOf hi with
  | some l, some h => (match a with
    | .tuple ds => .ok (.tuple (cut l h ds)) S
    | .str x => .ok (.str ⟨(cut l h x.cps.toList).toArray⟩) S
    | a => (match listOf S a with
      | some ds => mkList C pos (cut l h ds) S
      | none => .stuck))
  | _, _ => .stuck

noncomputable def rangeL (a b : Int) : List D := (List.range (b - a).toNat).map fun (k : Nat) => D.int (a + (k : Int))
/-- what a for takes -/
noncomputable def itemsOf : D → Option (List D)
  | .tuple ds => some ds
  | .list ds => some ds
  | .range a b => if decide (-1000000000 ≤ a) && decide (a ≤ 1000000000) && decide (-1000000000 ≤ b) && decide (b - a ≤ 16777216) then some (rangeL a b) else none
  | _ => none

inductive Bf where
  | len | range | all | tuple | list | int
noncomputable def bfOf (x : Str) : Option Bf :=
  if x == "len" then some .len else if x == "range" then some .range else if x == "all" then some .all else if x == "tuple" then some .tuple else if x == "list" then some .list else if x == "int" then some .int else none

noncomputable def lenM (a : D) : EM D := fun S => match a with
  | .tuple ds => .ok (.int ds.length) S
  | .str x => .ok (.int x.length) S
  | a => (match listOf S a with
    | some ds => .ok (.int ds.length) S
    | none => .stuck)

noncomputable def boolsOf : List D → Option (List Bool)
  | [] => some []
  | .bool b :: ds => match boolsOf ds with
    | some bs => some (b :: bs)
    | none => none
  | _ :: _ => none
noncomputable def strsOf : List D → Option (List Str)
  | [] => some []
  | .str b :: ds => match strsOf ds with
    | some bs => some (b :: bs)
    | none => none
  | _ :: _ => none

noncomputable def on1 (args : List D) (k : D → EM D) : EM D := match args with
  | [a] => k a
  | _ => stk
noncomputable def onList (a : D) (k : List D → EM D) : EM D := fun S => match listOf S a with
  | some ds => k ds S
  | none => .stuck
noncomputable def onTup (a : D) (k : List D → EM D) (z : EM D) : EM D := match a with
  | .tuple ds => k ds
  | _ => z
noncomputable def rangeM (args : List D) : EM D := match args with
  | [.int b] => ret (.range 0 b)
  | [a, b] => onInts a b (fun i j => ret (.range i j)) stk
  | _ => stk
noncomputable def intM (a : D) : EM D := match a with
  | .bool b => ret (.int (if b then 1 else 0))
  | _ => stk
noncomputable def bfM (C : Cfg) (pos : Pos) (f : Bf) (args : List D) : EM D := match f with
  | .len => on1 args lenM
  | .range => rangeM args
  | .all => on1 args fun a => onList a fun ds => optM ((boolsOf ds).map fun bs => .bool (bs.all id))
  | .tuple => on1 args fun a => onTup a (fun ds => ret (.tuple ds)) (onList a fun ds => ret (.tuple ds))
  | .list => on1 args fun a => onTup a (fun ds => mkList C pos ds) (onList a fun ds => mkList C pos ds)
  | .int => on1 args intM

noncomputable def isaM (C : Cfg) (a : D) (t : Str) : EM Bool := fun S =>
  match a with
  | .none => .ok false S
  | .bool _ => .ok (t == "bool" || t == "int") S
  | .int _ => .ok (t == "int") S
  | .str _ => .ok (t == "str") S
  | .tuple _ => .ok (t == "tuple") S
  | .list _ => .ok (t == "list") S
  | .loc n => (match S[n]? with
    | some (.list _) => .ok (t == "list") S
    | _ => .stuck)
  | .exn c => (match C.excs.lookup c with
    | some up => .ok (t == c || up.contains t) S
    | none => .stuck)
  | _ => .stuck
noncomputable def isaNames : List Str := ["bool", "int", "str", "tuple", "list"]
noncomputable def isaOk (C : Cfg) (a : D) (t : Str) : Bool := match a with
  | .exn _ => t == "ValueError" || (C.excs.lookup t).isSome
  | _ => isaNames.contains t

noncomputable def setS (S : Store) (n : Nat) (o : SObj) : Store := S.set n o
noncomputable def methK (i : MImpl) (a : D) : EM Unit := fun S => if i.ok S a then .ok () S else .stuck
noncomputable def isStrD : D → Bool
  | .str _ => true
  | _ => false
noncomputable def onStr (a : D) (k : Str → EM D) (z : EM D) : EM D := match a with
  | .str x => k x
  | _ => z
noncomputable def joinM (sep : Str) (xs : List D) : EM D := match strsOf xs with
  | some ys => if JoinOk sep ys then ret (.str (Txt.join sep ys)) else stk
  | none => stk
noncomputable def mJoin : MImpl := ⟨fun _ a => isStrD a, fun a ds => onStr a (fun sep => on1 ds fun b => onList b fun xs => joinM sep xs) stk, fun _ => "str.join"⟩
noncomputable def strIndex (y x : Str) : Option Nat := (Builtin.Str.occurrences y x 0 y.length 1).head?
noncomputable def mIndexS : MImpl := ⟨fun _ a => isStrD a, fun a ds => onStr a (fun y => on1 ds fun b => onStr b (fun x => optM ((strIndex y x).map fun k => .int k)) stk) stk, fun _ => "str.index"⟩

/-- a list of the store -/
noncomputable def isLocL (S : Store) : D → Bool
  | .loc n => (match S[n]? with
    | some (.list _) => true
    | _ => false)
  | _ => false
noncomputable def appendM (a d : D) : EM D := fun S => match a with
  | .loc n => (match S[n]? with
    | some (.list ds) => if ds.length < sizeLine then .ok .none (setS S n (.list (ds ++ [d]))) else .stuck
    | _ => .stuck)
  | _ => .stuck
noncomputable def mAppend : MImpl := ⟨isLocL, fun a ds => on1 ds fun d => appendM a d, fun _ => "list.append"⟩
/-- the pairs of a dict, frozen or in the store -/
noncomputable def dictOf (S : Store) : D → Option (List (Str × D))
  | .dict kvs => some kvs
  | .loc n => (match S[n]? with
    | some (.dict kvs) => some kvs
    | _ => none)
  | _ => none
noncomputable def onDict (a : D) (k : List (Str × D) → EM D) : EM D := fun S => match dictOf S a with
  | some kvs => k kvs S
  | none => .stuck
noncomputable def on2 (args : List D) (k : D → D → EM D) : EM D := match args with
  | [a, b] => k a b
  | _ => stk
noncomputable def mGet : MImpl := ⟨fun S a => (dictOf S a).isSome, fun a ds => on2 ds fun x d => onDict a fun kvs => onStr x (fun x => ret ((kvs.lookup x).getD d)) stk, fun _ => "dict.get"⟩
/-- a dict of the store -/
noncomputable def isLocD (S : Store) : D → Bool
  | .loc n => (match S[n]? with
    | some (.dict _) => true
    | _ => false)
  | _ => false
noncomputable def isFz : D → Option (List (Str × D))
  | .dict kvs => some kvs
  | _ => none
noncomputable def updM (a b : D) : EM D := fun S => match a with
  | .loc n => (match S[n]? with
    | some (.dict kvs) => (match isFz b with
      | some more => if decide (kvs.length + more.length ≤ 1000) && decide ((kvs ++ more).map (·.1)).Nodup then .ok .none (setS S n (.dict (kvs ++ more))) else .stuck
      | none => .stuck)
    | _ => .stuck)
  | _ => .stuck
noncomputable def mUpdate : MImpl := ⟨isLocD, fun a ds => on1 ds fun d => updM a d, fun _ => "dict.update"⟩
noncomputable def itemL (ds : List D) (k : Int) : EM D := optM ((seqIndex? k ds.length).bind (ds[·]?))
noncomputable def itemS (x : Str) (k : Int) : EM D := optM (((seqIndex? k x.length).bind (x.cps[·]?)).map fun c => .str ⟨#[c]⟩)
noncomputable def itemD (a : D) (x : Str) : EM D := match a with
  | .dict kvs => optM (kvs.lookup x)
  | _ => stk
noncomputable def itemM (a i : D) : EM D := match i with
  | .int k => onTup a (fun ds => itemL ds k) (onStr a (fun x => itemS x k) (onList a fun ds => itemL ds k))
  | .str x => itemD a x
  | _ => stk

inductive Fl where
  | next (σ : Sg)
  | ret (d : D)

noncomputable def forL (body : D → Sg → EM Fl) : List D → Sg → EM Fl
  | [], σ => ret (.next σ)
  | d :: r, σ => bnd (calm (body d σ)) fun f => match f with
    | .next σ' => forL body r σ'
    | .ret v => ret (.ret v)
/-- a comprehension: the items, a test, an element -/
noncomputable def compL (turn : D → EM (Option D)) : List D → EM (List D)
  | [] => ret []
  | d :: r => bnd (turn d) fun x => bnd (compL turn r) fun ys => ret (match x with
    | some y => y :: ys
    | none => ys)
/-- the comprehension's own frame: what it captures -/
noncomputable def compSg (sc : Scope) (σ : Sg) : List (Str × NameKind) → Sg
  | [] => []
  | (x, k) :: r => (match k with
    | .free => (match slot sc.names x with
      | some (i, .cell) => (σ[i]?).join
      | _ => none)
    | _ => none) :: compSg sc σ r
noncomputable def compSc (sc scope : Scope) : Scope := { scope with names := scope.names.map fun (n, k) => if k == .free && sc.kind == .function && sc.names.lookup n == some .cell then (n, .cell) else (n, k) }

/-- a comprehension's scope of a plain kind -/
noncomputable def compOk (sc scope : Scope) : Bool := scope.kind == .function && scope.names.all fun p =>
  p.2 != .cell && (p.2 != .local || scope.names.lookup p.1 == some .local) && (p.2 != .free || (match slot sc.names p.1 with
    | some (_, .cell) => true
    | _ => false))

noncomputable def nameE : Expr → Option Str
  | .Name x _ => some x
  | _ => none
noncomputable def namesOf : List Expr → Option (List Str)
  | [] => some []
  | e :: r => (nameE e).bind fun x => (namesOf r).map (x :: ·)
noncomputable def putName (sc : Scope) (σ : Sg) (x : Str) (d : D) : Option Sg := match slot sc.names x with
  | some (i, .local) => some (put σ i d)
  | some (i, .cell) => some (put σ i d)
  | _ => none

noncomputable def putAll (sc : Scope) : List Str → List D → Sg → Option Sg
  | [], [], σ => some σ
  | x :: xs, d :: ds, σ => (putName sc σ x d).bind (putAll sc xs ds)
  | _, _, _ => none

noncomputable def notCall : Expr → Bool
  | .Call .. => false
  | _ => true
noncomputable def notComp : Expr → Bool
  | .ListComp .. => false
  | .SetComp .. => false
  | .DictComp .. => false
  | _ => true
noncomputable def plainV : Expr → Bool
  | .ListComp .. => false
  | .SetComp .. => false
  | .DictComp .. => false
  | .Tuple .. => false
  | _ => true
noncomputable def noStar (as : List Expr) : Bool := as.all fun e => match e with
  | .Starred _ _ => false
  | _ => true
noncomputable def isRev (x : Str) (as : List Expr) : Bool := x == "tuple" && (match as with
  | [.Call (.Name g _) [_] [] _] => g == "reversed"
  | _ => false)

noncomputable def strC : Expr → Option Str
  | .Constant (.str x) _ _ => if PyData.strOk x && decide (x.length ≤ sizeLine) then some x else none
  | _ => none
noncomputable def litC : Expr → Option D
  | .Constant (.int i) _ _ => some (.int i)
  | e => (strC e).map .str
/-- a dict display of written keys and things -/
noncomputable def dictLit : List (Option Expr) → List Expr → Option (List (Str × D))
  | [], [] => some []
  | some k :: ks, v :: vs => (strC k).bind fun x => (litC v).bind fun y => (dictLit ks vs).map ((x, y) :: ·)
  | _, _ => none
noncomputable def mkD (own : Bool) (kvs : List (Str × D)) : EM D := if own then fun S => .ok (.loc S.length) (S ++ [.dict kvs]) else ret (.dict kvs)
noncomputable def dictM (own : Bool) (keys : List (Option Expr)) (values : List Expr) : EM D := match dictLit keys values with
  | some kvs => if !kvs.isEmpty && decide (kvs.length ≤ 15) && decide (kvs.map (·.1)).Nodup then mkD own kvs else stk
  | none => stk

mutual
noncomputable def ev (C : Cfg) (cf : Str → List D → EM D) : Expr → Scope → Sg → EM D
  | .Constant c _ _, _, _ => (match c with
    | .none => ret .none
    | .bool b => ret (.bool b)
    | .int i => ret (.int i)
    | .str x => if PyData.strOk x && decide (x.length ≤ sizeLine) then ret (.str x) else stk
    | _ => stk)
  | .Name x _, sc, σ => nameD C sc σ x
  | .BoolOp op vs _, sc, σ => evBool C cf op vs sc σ
  | .BinOp l op r pos, sc, σ => bnd (ev C cf l sc σ) fun a => bnd (ev C cf r sc σ) fun b => binop C pos op a b
  | .UnaryOp op x _, sc, σ => bnd (ev C cf x sc σ) fun a => unop op a
  | .Compare l ops rs _, sc, σ => bnd (ev C cf l sc σ) fun a => bnd (evCmp C cf a ops rs sc σ) fun b => ret (.bool b)
  | .Tuple es _ _, sc, σ => bnd (evAll C cf es sc σ) fun ds => if ds.length ≤ sizeLine then ret (.tuple ds) else stk
  | .List es pos, sc, σ => bnd (evAll C cf es sc σ) fun ds => if ds.length ≤ sizeLine then mkList C pos ds else stk
  | .Subscript v sl pos, sc, σ => bnd (ev C cf v sc σ) fun a => evSub C cf sl sc σ a pos (ev C cf sl sc σ)
  | .Dict keys values pos, _, _ => dictM (C.own pos) keys values
  | .ListComp elt gens scope pos, sc, σ => evComp C cf gens sc σ pos scope fun σ' => ev C cf elt (compSc sc scope) σ'
  | .Call f as kws pos, sc, σ => (match kws with
    | [] => if noStar as then (match f with
      | .Name x _ => if isGlobal sc x then
          (match C.fns.lookup x with
          | some _ => bnd (evAll C cf as sc σ) fun ds => calm (cf x ds)
          | none => if x == "isinstance" then evIsa C cf as sc σ else if isRev x as then evRev C cf as sc σ else
            (match bfOf x with
            | some b => bnd (evAll C cf as sc σ) fun ds => bfM C pos b ds
            | none => (match C.bfs.lookup x with
              | some i => bnd (evAll C cf as sc σ) fun ds => i.run (C.own pos) ds
              | none => stk))) else stk
      | .Attribute o m apos => if apos.endLine == pos.line && notCall o && decide (as.length < 20) then (match C.meths.lookup m with
        | some i => bnd (ev C cf o sc σ) fun a => bnd (methK i a) fun _ => bnd (evAll C cf as sc σ) fun ds => i.run a ds
        | none => stk) else stk
      | _ => stk) else stk
    | _ => stk)
  | _, _, _ => stk
noncomputable def evAll (C : Cfg) (cf : Str → List D → EM D) : List Expr → Scope → Sg → EM (List D)
  | [], _, _ => ret []
  | e :: r, sc, σ => bnd (ev C cf e sc σ) fun d => bnd (evAll C cf r sc σ) fun ds => ret (d :: ds)
noncomputable def evIsa (C : Cfg) (cf : Str → List D → EM D) : List Expr → Scope → Sg → EM D
  | [e, .Name t _], sc, σ => if isGlobal sc t then bnd (ev C cf e sc σ) fun a => if isaOk C a t then bnd (isaM C a t) fun b => ret (.bool b) else stk else stk
  | _, _, _ => stk
noncomputable def evRev (C : Cfg) (cf : Str → List D → EM D) : List Expr → Scope → Sg → EM D
  | [.Call (.Name g _) [e] [] _], sc, σ => if C.rev && isGlobal sc g then bnd (ev C cf e sc σ) fun a => onTup a (fun ds => ret (.tuple ds.reverse)) stk else stk
  | _, _, _ => stk
noncomputable def evBool (C : Cfg) (cf : Str → List D → EM D) : BoolOp → List Expr → Scope → Sg → EM D
  | _, [], _, _ => stk
  | _, [e], sc, σ => ev C cf e sc σ
  | op, e :: r, sc, σ => bnd (ev C cf e sc σ) fun a => bnd (truthM a) fun t => match op with
    | .And => (match t with
      | true => evBool C cf .And r sc σ
      | false => ret a)
    | .Or => (match t with
      | true => ret a
      | false => evBool C cf .Or r sc σ)
noncomputable def evCmp (C : Cfg) (cf : Str → List D → EM D) : D → List CmpOp → List Expr → Scope → Sg → EM Bool
  | a, [op], [e], sc, σ => bnd (ev C cf e sc σ) fun b => cmpM op a b
  | a, op :: ops, e :: es, sc, σ => bnd (ev C cf e sc σ) fun b => bnd (cmpM op a b) fun c => if c then evCmp C cf b ops es sc σ else ret false
  | _, _, _, _, _ => stk
noncomputable def evSub (C : Cfg) (cf : Str → List D → EM D) : Expr → Scope → Sg → D → Pos → EM D → EM D
  | .Slice lo hi st _, sc, σ, a, pos, _ => (match st with
    | none => bnd (evOpt C cf lo sc σ) fun l => bnd (evOpt C cf hi sc σ) fun h => sliceM C pos a l h
    | some _ => stk)
  | _, _, _, a, _, whole => bnd whole fun i => itemM a i
noncomputable def evOpt (C : Cfg) (cf : Str → List D → EM D) : Option Expr → Scope → Sg → EM D
  | none, _, _ => ret .none
  | some e, sc, σ => ev C cf e sc σ
noncomputable def evComp (C : Cfg) (cf : Str → List D → EM D) : List Comprehension → Scope → Sg → Pos → Scope → (Sg → EM D) → EM D
  | [⟨.Name x _, iter, ifs, 0⟩], sc, σ, pos, scope, elt => if compOk sc scope then bnd (ev C cf iter sc σ) fun it => bnd (optM (itemsOf it)) fun ds =>
      (match slot scope.names x with
      | some (i, .local) => bnd (compL (fun d => bnd (evTAll C cf .And ifs (compSc sc scope) (put (compSg sc σ scope.names) i d)) fun ok =>
          if ok then bnd (elt (put (compSg sc σ scope.names) i d)) fun y => ret (some y) else ret none) ds) fun ys => mkList C pos ys
      | _ => stk) else stk
  | _, _, _, _, _, _ => stk
noncomputable def evT (C : Cfg) (cf : Str → List D → EM D) : Expr → Scope → Sg → EM D → EM Bool
  | .UnaryOp .Not x _, sc, σ, _ => bnd (evT C cf x sc σ (ev C cf x sc σ)) fun b => ret (!b)
  | .BoolOp op vs _, sc, σ, _ => evTAll C cf op vs sc σ
  | .Compare l ops rs _, sc, σ, _ => bnd (ev C cf l sc σ) fun a => evCmp C cf a ops rs sc σ
  | .IfExp _ _ _ _, _, _, _ => stk
  | _, _, _, whole => bnd whole truthM
noncomputable def evTAll (C : Cfg) (cf : Str → List D → EM D) : BoolOp → List Expr → Scope → Sg → EM Bool
  | op, [], _, _ => ret (op == .And)
  | op, e :: r, sc, σ => bnd (evT C cf e sc σ (ev C cf e sc σ)) fun t => match op with
    | .And => (match t with
      | true => evTAll C cf .And r sc σ
      | false => ret false)
    | .Or => (match t with
      | true => ret true
      | false => evTAll C cf .Or r sc σ)
end

/-- a call of an own function, as a statement's thing: it may raise -/
noncomputable def directC (C : Cfg) (sc : Scope) (x : Str) (as : List Expr) (kws : List Keyword) : Bool := kws.isEmpty && noStar as && isGlobal sc x && (C.fns.lookup x).isSome
noncomputable def callOf : Expr → Option (Str × List Expr × List Keyword)
  | .Call (.Name x _) as kws _ => some (x, as, kws)
  | _ => none
/-- what the store's lists are just now, as things that do not change -/
noncomputable def frzD (S : Store) : D → Option D
  | .loc n => (match S[n]? with
    | some (.list ds) => if (D.pys ds).isSome then some (.list ds) else none
    | _ => none)
  | d => if d.py.isSome then some d else none
noncomputable def frz (S : Store) (σ : Sg) : Sg := σ.map fun o => o.bind (frzD S)
noncomputable def isAtom : D → Bool
  | .bool _ => true
  | .int _ => true
  | _ => false
/-- with a store of its own, that is forgotten at the end -/
noncomputable def frzS (k : Sg → EM D) (σ : Sg) : EM D := fun S => match k (frz S σ) [] with
  | .ok d _ => if isAtom d then .ok d S else .stuck
  | _ => .stuck
noncomputable def evC (C : Cfg) (cf : Str → List D → EM D) (e : Expr) (sc : Scope) (σ : Sg) : EM D := match callOf e with
  | some (x, as, kws) => if directC C sc x as kws then bnd (evAll C cf as sc σ) fun ds => cf x ds else ev C cf e sc σ
  | none => if notComp e && C.frz e.pos then frzS (fun σ => ev C cf e sc σ) σ else ev C cf e sc σ
noncomputable def oneOf : Expr → Option Expr
  | .Tuple [e] _ _ => some e
  | _ => none
noncomputable def evX (C : Cfg) (cf : Str → List D → EM D) (e : Expr) (sc : Scope) (σ : Sg) : EM D := match oneOf e with
  | some e' => bnd (bnd (evC C cf e' sc σ) fun d => bnd (ret []) fun ds => ret (d :: ds)) fun ds => if ds.length ≤ sizeLine then ret (.tuple ds) else stk
  | none => evC C cf e sc σ
noncomputable def notSlice : Expr → Bool
  | .Slice .. => false
  | _ => true
noncomputable def setItemM (a k d : D) : EM Unit := fun S => match a with
  | .loc n => (match k with
    | .int i => (match S[n]? with
      | some (.list ds) => if decide (0 ≤ i) && decide (i < (ds.length : Int)) then .ok () (setS S n (.list (ds.set i.toNat d))) else .stuck
      | _ => .stuck)
    | _ => .stuck)
  | _ => .stuck
mutual
noncomputable def ex (C : Cfg) (cf : Str → List D → EM D) : Stmt → Scope → Sg → EM Fl
  | .Pass _, _, σ => ret (.next σ)
  | .Return v _, sc, σ => (match v with
    | some e => bnd (evX C cf e sc σ) fun d => ret (.ret d)
    | none => ret (.ret .none))
  | .Expr e _, sc, σ => if notComp e then bnd (evC C cf e sc σ) fun _ => ret (.next σ) else stk
  | .Assign ts v _, sc, σ => (match ts with
    | [.Name x _] => bnd (evC C cf v sc σ) fun d => bnd (optM (putName sc σ x d)) fun σ' => ret (.next σ')
    | [.Tuple es _ _] => if plainV v then bnd (optM (namesOf es)) fun xs => bnd (evC C cf v sc σ) fun d => (match d with
      | .tuple ds => bnd (optM (putAll sc xs ds σ)) fun σ' => ret (.next σ')
      | _ => stk) else stk
    | [.Subscript o i _] => if notComp v && notSlice i then bnd (ev C cf v sc σ) fun d => bnd (ev C cf o sc σ) fun a => bnd (ev C cf i sc σ) fun k => bnd (setItemM a k d) fun _ => ret (.next σ) else stk
    | _ => stk)
  | .If t b o _, sc, σ => bnd (evT C cf t sc σ (ev C cf t sc σ)) fun c => if c then exs C cf b sc σ else exs C cf o sc σ
  | .For t iter body orelse _, sc, σ => (match t, orelse with
    | .Name x _, [] => bnd (ev C cf iter sc σ) fun it => bnd (optM (itemsOf it)) fun ds =>
        forL (fun d σ => bnd (optM (putName sc σ x d)) fun σ' => exs C cf body sc σ') ds σ
    | _, _ => stk)
  | _, _, _ => stk
noncomputable def exs (C : Cfg) (cf : Str → List D → EM D) : List Stmt → Scope → Sg → EM Fl
  | [], _, σ => ret (.next σ)
  | s :: r, sc, σ => bnd (ex C cf s sc σ) fun f => match f with
    | .next σ' => exs C cf r sc σ'
    | .ret d => ret (.ret d)
end

noncomputable def bindSg (ps : List Str) (ds : List D) : List (Str × NameKind) → Sg
  | [] => []
  | (x, _) :: r => ((ps.zip ds).lookup x) :: bindSg ps ds r
noncomputable def runFn (C : Cfg) (cf : Str → List D → EM D) (fn : Fn) (ds : List D) : EM D :=
  if ds.length == fn.params.length then bnd (exs C cf fn.body fn.scope (bindSg fn.params ds fn.scope.names)) fun f => match f with
    | .ret d => ret d
    | .next _ => ret .none
  else stk
noncomputable def callF (C : Cfg) : Nat → Str → List D → EM D
  | 0, _, _ => stk
  | n + 1, f, ds => match C.fns.lookup f with
    | some fn => runFn C (callF C n) fn ds
    | none => stk

noncomputable def fnsOf : List Stmt → List (Str × Fn)
  | [] => []
  | .FunctionDef name args body _ _ _ scope _ _ _ :: r => (name, ⟨args.args.map (·.arg), body, scope⟩) :: fnsOf r
  | _ :: r => fnsOf r
end Mine
end

section
set_option maxRecDepth 100000
set_option genSizeOf false
set_option genInjectivity false
namespace Mine
open PySem

/-- what lies apart: the store's addresses, the stack's frames -/
structure Hid where
  ρ : List Addr
  fr : List Addr

noncomputable abbrev lstO (vs : Array Value) (n : Nat) : Obj := { cls := .type "list", dict := none, data := .seq vs n, slots := #[] }
noncomputable abbrev tupO (vs : Array Value) (n : Nat) : Obj := { cls := .type "tuple", dict := none, data := .seq vs n, slots := #[] }
noncomputable abbrev rngO (i j : Int) (t u v : Tok) : Obj := { cls := .type "range", dict := none, data := .fields #[.int i t, .int j u, .int 1 v], slots := #[] }
noncomputable abbrev dicO (es : Array DictEntry) (n : Nat) : Obj := { cls := .type "dict", dict := none, data := .dict es n, slots := #[] }

mutual
inductive Rd (P : Params) (H : Hid) (h : Heap) : Value → D → Prop
  | none : Rd P H h .none .none
  | bool (b) : Rd P H h (.bool b) (.bool b)
  | int (i t) : Rd P H h (.int i t) (.int i)
  | str (x t) : PyData.strOk x = true → x.length ≤ sizeLine → Rd P H h (.str x t) (.str x)
  | tuple {a vs n ds} : a ∉ H.ρ → a ∉ H.fr → h.get? a = some (tupO vs n) → vs.size ≤ sizeLine → RdAll P H h vs.toList ds → Rd P H h (.ref a) (.tuple ds)
  | list {a vs n ds} : a ∉ H.ρ → a ∉ H.fr → h.get? a = some (lstO vs n) → vs.size ≤ sizeLine → RdAll P H h vs.toList ds → Rd P H h (.ref a) (.list ds)
  | dict {a es n kvs} : a ∉ H.ρ → a ∉ H.fr → h.get? a = some (dicO es n) → es.size ≤ sizeLine → (kvs.map (·.1)).Nodup → RdEnts P H h es.toList kvs → a ≠ sysModules → Rd P H h (.ref a) (.dict kvs)
  | range {a i j t u v} : a ∉ H.ρ → a ∉ H.fr → h.get? a = some (rngO i j t u v) → Rd P H h (.ref a) (.range i j)
  | loc {n a} : H.ρ[n]? = some a → Rd P H h (.ref a) (.loc n)
inductive RdAll (P : Params) (H : Hid) (h : Heap) : List Value → List D → Prop
  | nil : RdAll P H h [] []
  | cons {v vs d ds} : Rd P H h v d → RdAll P H h vs ds → RdAll P H h (v :: vs) (d :: ds)
inductive RdEnts (P : Params) (H : Hid) (h : Heap) : List DictEntry → List (Str × D) → Prop
  | nil : RdEnts P H h [] []
  | cons {e r x t d kvs} : e.key = .str x t → PyData.strOk x = true → x.length ≤ sizeLine → e.hash = PyData.keyHash P x → Rd P H h e.val d → RdEnts P H h r kvs → RdEnts P H h (e :: r) ((x, d) :: kvs)
end

/-- no namespace: it keeps its slots too -/
noncomputable def plainO (o : Obj) : Bool := match o.data with
  | .dict .. => false
  | _ => true

/-- what a step may do: new objects, the store's, those of X (of the ones that lie apart); what lies apart else keeps all but its slots -/
structure Ext (X : List Addr) (H : Hid) (h : Heap) (H' : Hid) (h' : Heap) : Prop where
  fr : H'.fr = H.fr
  pre : ∃ t, H'.ρ = H.ρ ++ t ∧ ∀ a ∈ t, h.objs.size ≤ a
  keep : ∀ b o, b ∉ H.ρ → b ∉ H.fr → h.get? b = some o → h'.get? b = some o
  keepF : ∀ b o, b ∈ H.fr → b ∉ X → h.get? b = some o → ∃ sl, h'.get? b = some { o with slots := sl } ∧ (plainO o = true → sl = o.slots)
  size : h.objs.size ≤ h'.objs.size

section
variable {P : Params} {H H' H'' : Hid} {h h' h'' : Heap} {X Y : List Addr}

theorem Ext.refl : Ext X H h H h := ⟨rfl, ⟨[], by simp, by simp⟩, fun _ _ _ _ e => e, fun _ o _ _ e => ⟨o.slots, e, fun _ => rfl⟩, Nat.le_refl _⟩

theorem Ext.notin (x : Ext X H h H' h') {b : Addr} (hb : b ∉ H.ρ) (hl : b < h.objs.size) : b ∉ H'.ρ := by
  obtain ⟨t, e, ht⟩ := x.pre
  rw [e]
  intro hm
  rcases List.mem_append.mp hm with q | q
  · exact hb q
  · exact absurd hl (Nat.not_lt.mpr (ht b q))

theorem Ext.trans (x : Ext X H h H' h') (y : Ext X H' h' H'' h'') : Ext X H h H'' h'' := by
  refine ⟨y.fr.trans x.fr, ?_, fun b o h1 h2 e => ?_, fun b o h2 h3 e => ?_, Nat.le_trans x.size y.size⟩
  · obtain ⟨t, e, ht⟩ := x.pre
    obtain ⟨u, e', hu⟩ := y.pre
    refine ⟨t ++ u, by rw [e', e, List.append_assoc], fun a ha => ?_⟩
    rcases List.mem_append.mp ha with q | q
    · exact ht a q
    · exact Nat.le_trans x.size (hu a q)
  · exact y.keep b o (x.notin h1 (Heap.lt_size e)) (by rw [x.fr]; exact h2) (x.keep b o h1 h2 e)
  · obtain ⟨sl, e', q⟩ := x.keepF b o h2 h3 e
    obtain ⟨sl', e'', q'⟩ := y.keepF b _ (by rw [x.fr]; exact h2) h3 e'
    exact ⟨sl', e'', fun p => (q' p).trans (q p)⟩

theorem Ext.mono (x : Ext X H h H' h') (hs : ∀ b ∈ X, b ∈ Y) : Ext Y H h H' h' :=
  ⟨x.fr, x.pre, x.keep, fun b o h2 h3 e => x.keepF b o h2 (fun q => h3 (hs b q)) e, x.size⟩
theorem Ext.weaken (x : Ext [] H h H' h') : Ext X H h H' h' := x.mono (by simp)
theorem Ext.trans0 (x : Ext X H h H' h') (y : Ext [] H' h' H'' h'') : Ext X H h H'' h'' := x.trans y.weaken
/-- a plain growth -/
theorem Ext.of_keeps (k : ∀ b o, h.get? b = some o → h'.get? b = some o) (hs : h.objs.size ≤ h'.objs.size) : Ext X H h H h' :=
  ⟨rfl, ⟨[], by simp, by simp⟩, fun b o _ _ e => k b o e, fun b o _ _ e => ⟨o.slots, k b o e, fun _ => rfl⟩, hs⟩
theorem size_push_le (h : Heap) (o : Obj) : h.objs.size ≤ (h.push o).objs.size := by rw [Heap.size_push]; omega
theorem Ext.push (o : Obj) : Ext X H h H (h.push o) := Ext.of_keeps (fun _ _ e => Heap.get?_push_of_some o e) (size_push_le h o)
/-- what lay apart in between is new to the start -/
theorem Ext.around {h₀ : Heap} {ns : List Addr} (k : ∀ b o, h₀.get? b = some o → h.get? b = some o) (hs : h₀.objs.size ≤ h.objs.size) (hn : ∀ b ∈ ns, h₀.objs.size ≤ b) (hX : ∀ b ∈ X, b ∈ ns ∨ b ∈ Y)
    (x : Ext X ⟨H.ρ, ns ++ H.fr⟩ h H' h') : Ext Y H h₀ ⟨H'.ρ, H.fr⟩ h' := by
  refine ⟨rfl, ?_, fun b o h1 h2 e => x.keep b o h1 ?_ (k b o e), fun b o h2 h3 e => x.keepF b o (List.mem_append_right _ h2) ?_ (k b o e), Nat.le_trans hs x.size⟩
  · obtain ⟨t, e, ht⟩ := x.pre
    exact ⟨t, e, fun a ha => Nat.le_trans hs (ht a ha)⟩
  · intro q
    rcases List.mem_append.mp q with q | q
    · exact absurd (Heap.lt_size e) (Nat.not_lt.mpr (hn b q))
    · exact h2 q
  · intro q
    rcases hX b q with q | q
    · exact absurd (Heap.lt_size e) (Nat.not_lt.mpr (hn b q))
    · exact h3 q

mutual
theorem Rd.ext (hk : ∀ b o, b ∉ H.ρ → b ∉ H.fr → h.get? b = some o → (b ∉ H'.ρ ∧ b ∉ H'.fr ∧ h'.get? b = some o)) (hp : ∀ (n : Nat) (a : Addr), H.ρ[n]? = some a → H'.ρ[n]? = some a) :
    ∀ {v : Value} {d : D}, Rd P H h v d → Rd P H' h' v d
  | _, _, .none => .none
  | _, _, .bool b => .bool b
  | _, _, .int i t => .int i t
  | _, _, .str x t a b => .str x t a b
  | _, _, .tuple a b c s r => let ⟨a', b', c'⟩ := hk _ _ a b c; .tuple a' b' c' s (RdAll.ext hk hp r)
  | _, _, .list a b c s r => let ⟨a', b', c'⟩ := hk _ _ a b c; .list a' b' c' s (RdAll.ext hk hp r)
  | _, _, .dict a b c s n r m => let ⟨a', b', c'⟩ := hk _ _ a b c; .dict a' b' c' s n (RdEnts.ext hk hp r) m
  | _, _, .range a b c => let ⟨a', b', c'⟩ := hk _ _ a b c; .range a' b' c'
  | _, _, .loc e => .loc (hp _ _ e)
theorem RdAll.ext (hk : ∀ b o, b ∉ H.ρ → b ∉ H.fr → h.get? b = some o → (b ∉ H'.ρ ∧ b ∉ H'.fr ∧ h'.get? b = some o)) (hp : ∀ (n : Nat) (a : Addr), H.ρ[n]? = some a → H'.ρ[n]? = some a) :
    ∀ {v : List Value} {d : List D}, RdAll P H h v d → RdAll P H' h' v d
  | _, _, .nil => .nil
  | _, _, .cons a r => .cons (Rd.ext hk hp a) (RdAll.ext hk hp r)
theorem RdEnts.ext (hk : ∀ b o, b ∉ H.ρ → b ∉ H.fr → h.get? b = some o → (b ∉ H'.ρ ∧ b ∉ H'.fr ∧ h'.get? b = some o)) (hp : ∀ (n : Nat) (a : Addr), H.ρ[n]? = some a → H'.ρ[n]? = some a) :
    ∀ {v : List DictEntry} {d : List (Str × D)}, RdEnts P H h v d → RdEnts P H' h' v d
  | _, _, .nil => .nil
  | _, _, .cons a o l b c r => .cons a o l b (Rd.ext hk hp c) (RdEnts.ext hk hp r)
end

theorem prefix_get {α : Type} {l l' t : List α} (e : l' = l ++ t) {n : Nat} {a : α} (h : l[n]? = some a) : l'[n]? = some a := by
  subst e
  rw [List.getElem?_append_left]
  · exact h
  · exact (List.getElem?_eq_some_iff.mp h).1
theorem Ext.hk (x : Ext X H h H' h') : ∀ b o, b ∉ H.ρ → b ∉ H.fr → h.get? b = some o → (b ∉ H'.ρ ∧ b ∉ H'.fr ∧ h'.get? b = some o) :=
  fun b o h1 h2 e => ⟨x.notin h1 (Heap.lt_size e), by rw [x.fr]; exact h2, x.keep b o h1 h2 e⟩
theorem Ext.hp (x : Ext X H h H' h') : ∀ (n : Nat) (a : Addr), H.ρ[n]? = some a → H'.ρ[n]? = some a := fun _ _ e => let ⟨_, q, _⟩ := x.pre; prefix_get q e
theorem Rd.step (x : Ext X H h H' h') {v : Value} {d : D} (r : Rd P H h v d) : Rd P H' h' v d := Rd.ext x.hk x.hp r
theorem RdAll.step (x : Ext X H h H' h') {v : List Value} {d : List D} (r : RdAll P H h v d) : RdAll P H' h' v d := RdAll.ext x.hk x.hp r
theorem RdEnts.step (x : Ext X H h H' h') {v : List DictEntry} {d : List (Str × D)} (r : RdEnts P H h v d) : RdEnts P H' h' v d := RdEnts.ext x.hk x.hp r

/-- fewer lie apart -/
theorem Rd.less {fr : List Addr} (hf : ∀ b ∈ fr, b ∈ H.fr) {v : Value} {d : D} (r : Rd P H h v d) : Rd P ⟨H.ρ, fr⟩ h v d :=
  Rd.ext (H := H) (H' := ⟨H.ρ, fr⟩) (fun _ _ h1 h2 e => ⟨h1, fun q => h2 (hf _ q), e⟩) (fun _ _ e => e) r
theorem RdAll.less {fr : List Addr} (hf : ∀ b ∈ fr, b ∈ H.fr) {v : List Value} {d : List D} (r : RdAll P H h v d) : RdAll P ⟨H.ρ, fr⟩ h v d :=
  RdAll.ext (H := H) (H' := ⟨H.ρ, fr⟩) (fun _ _ h1 h2 e => ⟨h1, fun q => h2 (hf _ q), e⟩) (fun _ _ e => e) r
/-- more lie apart: those that are newer than all that is read -/
theorem Rd.more {fr : List Addr} (k : ∀ b o, h.get? b = some o → h'.get? b = some o) (hf : ∀ b ∈ fr, b ∈ H.fr ∨ h.objs.size ≤ b) {v : Value} {d : D} (r : Rd P H h v d) : Rd P ⟨H.ρ, fr⟩ h' v d :=
  Rd.ext (H := H) (H' := ⟨H.ρ, fr⟩) (fun b _ h1 h2 e => ⟨h1, fun q => (hf b q).elim h2 fun r => absurd (Heap.lt_size e) (Nat.not_lt.mpr r), k _ _ e⟩) (fun _ _ e => e) r
theorem RdAll.more {fr : List Addr} (k : ∀ b o, h.get? b = some o → h'.get? b = some o) (hf : ∀ b ∈ fr, b ∈ H.fr ∨ h.objs.size ≤ b) {v : List Value} {d : List D} (r : RdAll P H h v d) : RdAll P ⟨H.ρ, fr⟩ h' v d :=
  RdAll.ext (H := H) (H' := ⟨H.ρ, fr⟩) (fun b _ h1 h2 e => ⟨h1, fun q => (hf b q).elim h2 fun r => absurd (Heap.lt_size e) (Nat.not_lt.mpr r), k _ _ e⟩) (fun _ _ e => e) r

theorem RdAll.length {vs : List Value} {ds : List D} (r : RdAll P H h vs ds) : vs.length = ds.length := by
  induction ds generalizing vs with
  | nil => cases r; rfl
  | cons d ds ih => cases r with | cons a b => simp [ih b]
theorem RdAll.append {vs ws : List Value} {ds es : List D} (r : RdAll P H h vs ds) (q : RdAll P H h ws es) : RdAll P H h (vs ++ ws) (ds ++ es) := by
  induction ds generalizing vs with
  | nil => cases r; exact q
  | cons d ds ih => cases r with | cons a b => exact .cons a (ih b)
theorem RdAll.get {vs : List Value} {ds : List D} (r : RdAll P H h vs ds) {n : Nat} {d : D} (hd : ds[n]? = some d) : ∃ v, vs[n]? = some v ∧ Rd P H h v d := by
  induction ds generalizing vs n with
  | nil => simp at hd
  | cons e ds ih =>
    cases r with
    | cons a b =>
      cases n with
      | zero => simp at hd; subst hd; exact ⟨_, rfl, a⟩
      | succ n => simpa using ih b (by simpa using hd)
theorem RdAll.drop {vs : List Value} {ds : List D} (r : RdAll P H h vs ds) (n : Nat) : RdAll P H h (vs.drop n) (ds.drop n) := by
  induction n generalizing vs ds with
  | zero => exact r
  | succ n ih => cases r with
    | nil => simpa using RdAll.nil
    | cons a b => simpa using ih b
theorem RdAll.take {vs : List Value} {ds : List D} (r : RdAll P H h vs ds) (n : Nat) : RdAll P H h (vs.take n) (ds.take n) := by
  induction n generalizing vs ds with
  | zero => simpa using RdAll.nil
  | succ n ih => cases r with
    | nil => simpa using RdAll.nil
    | cons a b => simpa using .cons a (ih b)
theorem RdAll.reverse {vs : List Value} {ds : List D} (r : RdAll P H h vs ds) : RdAll P H h vs.reverse ds.reverse := by
  induction ds generalizing vs with
  | nil => cases r; exact .nil
  | cons d ds ih => cases r with
    | cons a b => simpa using (ih b).append (.cons a .nil)
end
end Mine
end

section
set_option maxRecDepth 100000
namespace Mine
open PySem

/-- an object of the store, as the heap has it -/
noncomputable def SAt (P : Params) (H : Hid) (h : Heap) (a : Addr) : SObj → Prop
  | .list ds => ∃ vs n, h.get? a = some (lstO vs n) ∧ vs.size ≤ sizeLine ∧ RdAll P H h vs.toList ds
  | .dict kvs => ∃ es n, h.get? a = some (dicO es n) ∧ es.size ≤ sizeLine ∧ (kvs.map (·.1)).Nodup ∧ RdEnts P H h es.toList kvs ∧ a ≠ sysModules
theorem SAt.ext {P : Params} {H H' : Hid} {h h' : Heap} {a : Addr} {o : SObj} (hk : ∀ b o, b ∉ H.ρ → b ∉ H.fr → h.get? b = some o → (b ∉ H'.ρ ∧ b ∉ H'.fr ∧ h'.get? b = some o)) (hp : ∀ (n : Nat) (a : Addr), H.ρ[n]? = some a → H'.ρ[n]? = some a)
    (hg : ∀ ob, h.get? a = some ob → h'.get? a = some ob) (q : SAt P H h a o) : SAt P H' h' a o := by
  cases o with
  | list ds => obtain ⟨vs, n, q1, q2, q3⟩ := q; exact ⟨vs, n, hg _ q1, q2, q3.ext hk hp⟩
  | dict kvs => obtain ⟨es, n, q1, q2, q3, q4, q5⟩ := q; exact ⟨es, n, hg _ q1, q2, q3, q4.ext hk hp, q5⟩
theorem SAt.step {P : Params} {X : List Addr} {H H' : Hid} {h h' : Heap} {a : Addr} {o : SObj} (x : Ext X H h H' h') (hg : ∀ ob, h.get? a = some ob → h'.get? a = some ob) (q : SAt P H h a o) : SAt P H' h' a o := q.ext x.hk x.hp hg
theorem SAt.live {P : Params} {H : Hid} {h : Heap} {a : Addr} {o : SObj} (q : SAt P H h a o) : ∃ ob, h.get? a = some ob := by
  cases o with
  | list ds => obtain ⟨_, _, q, _⟩ := q; exact ⟨_, q⟩
  | dict kvs => obtain ⟨_, _, q, _⟩ := q; exact ⟨_, q⟩

/-- the frames of the stack are there -/
noncomputable def FA (fs : List Env) (H : Hid) (h : Heap) : Prop :=
  ∀ env ∈ fs, env.scope.kind ≠ .module ∧ ∃ L o, env.frame = some L ∧ L ∈ H.fr ∧ h.get? L = some o ∧ plainO o = false

structure Glo where
  prog : Program
  w : World
  C : Cfg
  B : Shared
  mg : Str → Option Value
  mb : Str → Option Value
  cls : Str → Option Addr

noncomputable abbrev Glo.P (G : Glo) : Params := G.w.params
noncomputable abbrev Glo.M (G : Glo) : Model := model G.prog G.w

structure Inv (G : Glo) (fs : List Env) (H : Hid) (S : Store) (s : Shared) : Prop where
  stays : G.B.heap.StaysIn s.heap
  newS : ∀ a ∈ H.ρ, G.B.heap.get? a = none
  newF : ∀ a ∈ H.fr, G.B.heap.get? a = none
  off : ∀ a ∈ H.ρ, a ∉ H.fr
  liveF : ∀ a ∈ H.fr, ∃ o, s.heap.get? a = some o
  nodup : H.ρ.Nodup
  len : H.ρ.length = S.length
  objs : ∀ (n : Nat) (o : SObj), S[n]? = some o → ∃ a, H.ρ[n]? = some a ∧ SAt G.P H s.heap a o
  fa : FA fs H s.heap
  gens : s.gens = #[]
  os : s.os = G.B.os

/-- an exception of an own class, on its way: hs is what belongs to it -/
noncomputable def Fly (G : Glo) (c : Str) (e : Value) (hs : List Addr) (h' : Heap) : Prop :=
  ∃ ea C oe vs a0, e = .ref ea ∧ G.cls c = some C ∧ h'.get? ea = some oe ∧ oe.cls = .ref C ∧ oe.data = .fields vs ∧ vs[0]? = some a0 ∧
    ((vs[1]? = some .none ∧ hs = [ea]) ∨ ∃ T oT ts, vs[1]? = some (.ref T) ∧ T ≠ ea ∧ h'.get? T = some oT ∧ oT.data = .fields ts ∧ ts[3]? = some .none ∧ hs = [ea, T])
/-- the heap but for some -/
noncomputable def hid (s : Shared) (hs : List Addr) : Shared := { s with heap := W.hideAll s.heap hs }
noncomputable def PX (G : Glo) (fs : List Env) (X : List Addr) {α : Type} (H : Hid) (h : Heap) (r : Out α) (e : Value) (s' : Shared) : Prop :=
  ∃ c S' H' hs, r = .exc c S' ∧ Ext X H h H' (hid s' hs).heap ∧ Inv G fs H' S' (hid s' hs) ∧ Fly G c e hs s'.heap
noncomputable def PV (G : Glo) (fs : List Env) {α' α : Type} (R : Hid → Heap → α' → α → Prop) (H : Hid) (h : Heap) (r : Out α) (v : α') (s' : Shared) : Prop :=
  ∃ a S' H', r = .ok a S' ∧ Ext [] H h H' s'.heap ∧ Inv G fs H' S' s' ∧ R H' s'.heap v a
/-- an expression raises nothing -/
noncomputable def PE (_G : Glo) (_fs : List Env) {α : Type} (_H : Hid) (_h : Heap) (_r : Out α) (_e : Value) (_s' : Shared) : Prop := False

noncomputable def Wp (G : Glo) (fs : List Env) (A : Around) {α' α : Type} (R : Hid → Heap → α' → α → Prop) (H : Hid) (S : Store) (s : Shared) (t : Sem α') (m : EM α) : Prop :=
  m S ≠ .stuck → wpAny G.M A t (PV G fs R H s.heap (m S)) (PE G fs H s.heap (m S)) s

section
variable {G : Glo} {fs : List Env} {A : Around} {α' β' γ' α β γ : Type} {R : Hid → Heap → α' → α → Prop} {R' : Hid → Heap → β' → β → Prop} {H : Hid} {S : Store} {s : Shared}

theorem PE.trans {h : Heap} {H1 : Hid} {h1 : Heap} {r : Out β} {e : Value} {s' : Shared} (_x : Ext [] H h H1 h1) (p : PE G fs H1 h1 r e s') : PE G fs H h r e s' := p
theorem PX.trans {X : List Addr} {h : Heap} {H1 : Hid} {h1 : Heap} {r : Out β} {e : Value} {s' : Shared} (x : Ext X H h H1 h1) (p : PX G fs X H1 h1 r e s') : PX G fs X H h r e s' := by
  obtain ⟨c, S', H', hs, a, b, d⟩ := p
  exact ⟨c, S', H', hs, a, x.trans b, d⟩
theorem PX.widen {X : List Addr} {h : Heap} {r : Out β} {e : Value} {s' : Shared} (p : PX G fs [] H h r e s') : PX G fs X H h r e s' := by
  obtain ⟨c, S', H', hs, a, b, d⟩ := p
  exact ⟨c, S', H', hs, a, b.weaken, d⟩
theorem PX.bnd {X : List Addr} {h : Heap} {m : EM α} {f : α → EM β} {e : Value} {s' : Shared} (p : PX G fs X H h (m S) e s') : PX G fs X H h (Mine.bnd m f S) e s' := by
  obtain ⟨c, S', H', hs, a, b⟩ := p
  exact ⟨c, S', H', hs, by unfold Mine.bnd; rw [a], b⟩
theorem PX.not {X : List Addr} {h : Heap} {m : EM β} {e : Value} {s' : Shared} (p : PX G fs X H h (m S) e s') (hn : calm m S ≠ .stuck) : False := by
  obtain ⟨c, S', H', hs, a, b⟩ := p
  exact hn (by unfold calm; rw [a])
theorem calm_at {m : EM β} (hn : calm m S ≠ .stuck) : calm m S = m S ∧ m S ≠ .stuck := by
  unfold calm at *
  cases e : m S with
  | ok a S' => exact ⟨rfl, fun q => by cases q⟩
  | exc c S' => rw [e] at hn; exact absurd rfl hn
  | stuck => rw [e] at hn; exact absurd rfl hn
theorem PV.trans {h : Heap} {H1 : Hid} {h1 : Heap} {r : Out β} {v : β'} {s' : Shared} (x : Ext [] H h H1 h1) (p : PV G fs R' H1 h1 r v s') : PV G fs R' H h r v s' := by
  obtain ⟨c, S', H', a, b, d⟩ := p
  exact ⟨c, S', H', a, x.trans b, d⟩

/-- one behind the other, the tree's continuation standing in the first's end -/
theorem Wp.seq {t : Sem α'} {m : EM α} {f : α → EM β} {T : α' → Shared → Prop} (h1 : Wp G fs A R H S s t m) (hne : bnd m f S ≠ .stuck)
    (h2 : ∀ v a H1 S1 s1, m S = .ok a S1 → Ext [] H s.heap H1 s1.heap → Inv G fs H1 S1 s1 → R H1 s1.heap v a → f a S1 ≠ .stuck → bnd m f S = f a S1 → T v s1) :
    wpAny G.M A t T (PE G fs H s.heap (bnd m f S)) s := by
  have hm : m S ≠ .stuck := fun q => hne (by unfold bnd; rw [q])
  refine wpAny_mono (h1 hm) (fun v s1 p => ?_) fun e s1 p => ?_
  · obtain ⟨a, S1, H1, e1, x, i, r⟩ := p
    have eb : bnd m f S = f a S1 := by unfold bnd; rw [e1]
    exact h2 v a H1 S1 s1 e1 x i r (eb ▸ hne) eb
  · exact p

/-- the same, where what follows is a tree with its own word -/
theorem Wp.next {t : Sem α'} {u : α' → Sem β'} {m : EM α} {f : α → EM β} (h1 : Wp G fs A R H S s t m) (hne : bnd m f S ≠ .stuck)
    (h2 : ∀ v a H1 S1 s1, Ext [] H s.heap H1 s1.heap → Inv G fs H1 S1 s1 → R H1 s1.heap v a → Wp G fs A R' H1 S1 s1 (u v) (f a)) :
    wpAny G.M A t (fun v s1 => wpAny G.M A (u v) (PV G fs R' H s.heap (bnd m f S)) (PE G fs H s.heap (bnd m f S)) s1) (PE G fs H s.heap (bnd m f S)) s :=
  h1.seq hne fun v a H1 S1 s1 _ x i r n e => by
    rw [e]
    exact wpAny_mono (h2 v a H1 S1 s1 x i r n) (fun _ _ p => p.trans x) fun _ _ p => p.trans x

theorem Wp.bind {t : Sem α'} {u : α' → Sem β'} {m : EM α} {f : α → EM β} (h1 : Wp G fs A R H S s t m)
    (h2 : ∀ v a H1 S1 s1, Ext [] H s.heap H1 s1.heap → Inv G fs H1 S1 s1 → R H1 s1.heap v a → Wp G fs A R' H1 S1 s1 (u v) (f a)) : Wp G fs A R' H S s (t >>= u) (bnd m f) :=
  fun hne => wpAny_bind (h1.next hne h2)

/-- an end -/
theorem Wp.ret {t : Sem α'} {a : α} (h : ∀ (Q : α' → Shared → Prop) (E : Value → Shared → Prop), (∀ v s', Ext [] H s.heap H s'.heap → Inv G fs H S s' → R H s'.heap v a → Q v s') → wpAny G.M A t Q E s) :
    Wp G fs A R H S s t (Mine.ret a) := fun _ => h _ _ fun _ _ x i r => ⟨a, S, H, rfl, x, i, r⟩
theorem PV.ok {h : Heap} {v : α'} {a : α} {r : Out α} {S' : Store} {H' : Hid} {s' : Shared} (e : r = .ok a S') (x : Ext [] H h H' s'.heap) (i : Inv G fs H' S' s') (q : R H' s'.heap v a) : PV G fs R H h r v s' := ⟨a, S', H', e, x, i, q⟩

theorem Wp.stk {t : Sem α'} : Wp G fs A R H S s t (Mine.stk : EM α) := fun h => absurd rfl h
theorem Wp.stuck {t : Sem α'} {m : EM α} (e : m S = .stuck) : Wp G fs A R H S s t m := fun h => absurd e h

/-- what grows keeps the word of the state -/
theorem FA.step {H' : Hid} {h h' : Heap} (x : FA fs H h) (hf : ∀ b ∈ H.fr, b ∈ H'.fr) (k : ∀ b o, b ∈ H.fr → h.get? b = some o → ∃ o', h'.get? b = some o' ∧ (plainO o = false → plainO o' = false)) : FA fs H' h' := by
  intro env he
  obtain ⟨a, L, o, b, c, d, e⟩ := x env he
  obtain ⟨o', d', e'⟩ := k L o c d
  exact ⟨a, L, o', b, hf L c, d', e' e⟩

theorem Inv.grow {h' : Heap} {tk : Nat} (i : Inv G fs H S s) (k : ∀ b o, s.heap.get? b = some o → h'.get? b = some o) : Inv G fs H S { s with heap := h', toks := tk } where
  stays := fun b o e => k b o (i.stays b o e)
  newS := i.newS
  newF := i.newF
  off := i.off
  liveF := fun a q => let ⟨o, e⟩ := i.liveF a q; ⟨o, k a o e⟩
  nodup := i.nodup
  len := i.len
  objs := fun n o e => by
    obtain ⟨a, e1, e2⟩ := i.objs n o e
    exact ⟨a, e1, e2.ext (fun b o h1 h2 e => ⟨h1, h2, k b o e⟩) (fun _ _ e => e) fun ob q => k _ _ q⟩
  fa := i.fa.step (fun _ q => q) fun b o _ e => ⟨o, k b o e, fun q => q⟩
  gens := i.gens
  os := i.os
theorem Inv.toks {tk : Nat} (i : Inv G fs H S s) : Inv G fs H S { s with toks := tk } := i.grow (h' := s.heap) (fun _ _ e => e)
theorem Inv.push {o : Obj} {tk : Nat} (i : Inv G fs H S s) : Inv G fs H S { s with heap := s.heap.push o, toks := tk } := i.grow (fun _ _ e => Heap.get?_push_of_some o e)
theorem Inv.push' {o : Obj} (i : Inv G fs H S s) : Inv G fs H S { s with heap := s.heap.push o } := i.push (tk := s.toks)

/-- a new object is not among what lies apart -/
theorem Inv.liveS (i : Inv G fs H S s) {a : Addr} (ha : a ∈ H.ρ) : ∃ o, s.heap.get? a = some o := by
  obtain ⟨n, hn, e⟩ := List.mem_iff_getElem.mp ha
  have hS : n < S.length := by rw [← i.len]; exact hn
  obtain ⟨b, e1, e2⟩ := i.objs n S[n] (by simp)
  have : b = a := by rw [List.getElem?_eq_getElem hn, e] at e1; exact (Option.some.inj e1).symm
  subst this
  exact e2.live
theorem Inv.ltS (i : Inv G fs H S s) {a : Addr} (ha : a ∈ H.ρ) : a < s.heap.objs.size := let ⟨_, e⟩ := i.liveS ha; Heap.lt_size e
theorem Inv.ltF (i : Inv G fs H S s) {a : Addr} (ha : a ∈ H.fr) : a < s.heap.objs.size := let ⟨_, e⟩ := i.liveF a ha; Heap.lt_size e
theorem Inv.freshS (i : Inv G fs H S s) : s.heap.objs.size ∉ H.ρ := fun q => Nat.lt_irrefl _ (i.ltS q)
theorem Inv.freshF (i : Inv G fs H S s) : s.heap.objs.size ∉ H.fr := fun q => Nat.lt_irrefl _ (i.ltF q)
end

/-- the frame's names -/
structure EnvOk (G : Glo) (H : Hid) (h : Heap) (env : Env) (sc : Scope) (σ : Sg) : Prop where
  scope : env.scope = sc
  kind : sc.kind = .function
  glob : env.globals = mainGlobals
  bi : env.builtins = builtinsNs
  inF : env.locals ∈ H.fr
  ns : ∃ m, h.Ns env.locals m ∧ ∀ x i d, slot sc.names x = some (i, .local) → σ[i]? = some (some d) → ∃ v, m x = some v ∧ Rd G.P H h v d
  cells : ∀ x i, slot sc.names x = some (i, .cell) → ∃ c, env.cells.lookup x = some c ∧ c ∈ H.fr ∧ c ≠ env.locals ∧ ∃ v?, h.IsCell c v? ∧ ∀ d, σ[i]? = some (some d) → ∃ v, v? = some v ∧ Rd G.P H h v d
  cin : ∀ p ∈ env.cells, p.2 ∈ H.fr
  inj : ∀ x y i j c, slot sc.names x = some (i, .cell) → slot sc.names y = some (j, .cell) → env.cells.lookup x = some c → env.cells.lookup y = some c → x = y

section
variable {G : Glo} {fs : List Env} {A : Around} {H H' : Hid} {S : Store} {s : Shared} {h h' : Heap} {env : Env} {sc : Scope} {σ : Sg}

theorem Ns.upto {m : Str → Option Value} {L : Addr} (hn : h.Ns L m) (k : ∀ o, h.get? L = some o → ∃ sl, h'.get? L = some { o with slots := sl }) : h'.Ns L m := by
  obtain ⟨o, es, ep, e, r⟩ := hn
  obtain ⟨sl, e'⟩ := k o e
  exact ⟨_, es, ep, e', r⟩
theorem IsCell.upto {v : Option Value} {c : Addr} (hn : h.IsCell c v) (k : ∀ o, h.get? c = some o → ∃ sl, h'.get? c = some { o with slots := sl }) : h'.IsCell c v := by
  obtain ⟨o, e, r⟩ := hn
  obtain ⟨sl, e'⟩ := k o e
  exact ⟨_, e', r⟩

theorem EnvOk.step (x : EnvOk G H h env sc σ) (e : Ext [] H h H' h') : EnvOk G H' h' env sc σ where
  scope := x.scope
  kind := x.kind
  glob := x.glob
  bi := x.bi
  inF := by rw [e.fr]; exact x.inF
  ns := by
    obtain ⟨m, n, r⟩ := x.ns
    refine ⟨m, Ns.upto n fun o q => (e.keepF _ o x.inF (by simp) q).imp fun _ r => r.1, fun y i d q1 q2 => ?_⟩
    obtain ⟨v, q, r'⟩ := r y i d q1 q2
    exact ⟨v, q, r'.step e⟩
  cells := fun y i q => by
    obtain ⟨c, e1, e2, e3, v, e4, e5⟩ := x.cells y i q
    refine ⟨c, e1, by rw [e.fr]; exact e2, e3, v, IsCell.upto e4 fun o q => (e.keepF _ o e2 (by simp) q).imp fun _ r => r.1, fun d q => ?_⟩
    obtain ⟨u, q1, q2⟩ := e5 d q
    exact ⟨u, q1, q2.step e⟩
  cin := fun p hp => by rw [e.fr]; exact x.cin p hp
  inj := x.inj

theorem slot_lookup : ∀ {ns : List (Str × NameKind)} {x : Str} {i : Nat} {k : NameKind}, slot ns x = some (i, k) → ns.lookup x = some k
  | [], _, _, _, h => by cases h
  | (y, k') :: r, x, i, k, h => by
    unfold slot at h
    rw [List.lookup_cons]
    split at h
    · rename_i q; rw [q]; cases h; rfl
    · rename_i q
      have q' : (x == y) = false := by simpa using q
      rw [q']
      split at h
      · rename_i j k'' q2; cases h; exact slot_lookup q2
      · cases h
theorem slot_inj : ∀ {ns : List (Str × NameKind)} {x y : Str} {i : Nat} {k k' : NameKind}, slot ns x = some (i, k) → slot ns y = some (i, k') → x = y
  | [], _, _, _, _, _, h, _ => by cases h
  | (z, k₀) :: r, x, y, i, k, k', h, g => by
    unfold slot at h g
    split at h
    · rename_i q
      cases h
      split at g
      · rename_i q2; rw [beq_iff_eq.mp q, beq_iff_eq.mp q2]
      · split at g
        · rename_i j _ _; cases g
        · cases g
    · split at h
      · rename_i j k'' q2
        cases h
        split at g
        · cases g
        · split at g
          · rename_i j' k3 q3; cases g; exact slot_inj q2 q3
          · cases g
      · cases h
theorem EnvOk.kindOf (x : EnvOk G H h env sc σ) {y : Str} {i : Nat} {k : NameKind} (e : slot sc.names y = some (i, k)) : env.kindOf y = some k := by
  show env.scope.names.lookup y = some k
  rw [x.scope]; exact slot_lookup e
end
end Mine
end

section
set_option maxRecDepth 100000
namespace Mine
open PySem

noncomputable abbrev RR (G : Glo) : Hid → Heap → Value → D → Prop := fun H h v d => Rd G.P H h v d
noncomputable abbrev RB : Hid → Heap → Bool → Bool → Prop := fun _ _ b c => b = c
noncomputable abbrev RL (G : Glo) : Hid → Heap → List Value → List D → Prop := fun H h vs ds => RdAll G.P H h vs ds

section
variable {G : Glo} {fs : List Env} {A : Around} {H : Hid} {S : Store} {s : Shared}

theorem line63 {n : Nat} (h : n ≤ sizeLine) : (n : Int) < 2 ^ 63 := by
  have : sizeLine = 16777216 := by decide
  omega

theorem Rd.isList {h : Heap} {a : Addr} {vs : Array Value} {n : Nat} (e : h.get? a = some (lstO vs n)) : h.IsList a vs := ⟨_, e, rfl, n, rfl⟩
theorem Rd.isTup {h : Heap} {a : Addr} {vs : Array Value} {n : Nat} (e : h.get? a = some (tupO vs n)) : PyProof.Rows.IsTup h a vs := ⟨_, e, rfl, n, rfl⟩

theorem listOf_loc (S : Store) (n : Nat) : listOf S (.loc n) = match S[n]? with
    | some (.list ds) => some ds
    | _ => none := rfl
/-- the items behind a list, frozen or in the store -/
theorem listOf_ok (I : Inv G fs H S s) {v : Value} {d : D} {ds : List D} (r : Rd G.P H s.heap v d) (e : listOf S d = some ds) :
    ∃ a vs n, v = .ref a ∧ s.heap.get? a = some (lstO vs n) ∧ vs.size ≤ sizeLine ∧ RdAll G.P H s.heap vs.toList ds := by
  cases r with
  | list a b c l q => cases e; exact ⟨_, _, _, rfl, c, l, q⟩
  | loc q =>
    rw [listOf_loc] at e
    split at e
    · rename_i ds' hS
      cases e
      obtain ⟨a', e1, vs, m, e2, e3, e4⟩ := I.objs _ _ hS
      rw [q] at e1; cases e1
      exact ⟨_, vs, m, rfl, e2, e3, e4⟩
    · cases e
  | _ => cases e

-- data without dicts, ranges and places, as the library reads it
theorem Rd.tup_inv {P : Params} {h : Heap} {v : Value} {ds : List D} (r : Rd P H h v (.tuple ds)) : ∃ a vs n, v = .ref a ∧ h.get? a = some (tupO vs n) ∧ vs.size ≤ sizeLine ∧ RdAll P H h vs.toList ds := by cases r; exact ⟨_, _, _, rfl, ‹_›, ‹_›, ‹_›⟩
theorem Rd.lst_inv {P : Params} {h : Heap} {v : Value} {ds : List D} (r : Rd P H h v (.list ds)) : ∃ a vs n, v = .ref a ∧ h.get? a = some (lstO vs n) ∧ vs.size ≤ sizeLine ∧ RdAll P H h vs.toList ds := by cases r; exact ⟨_, _, _, rfl, ‹_›, ‹_›, ‹_›⟩
theorem RdAll.cons_inv {P : Params} {h : Heap} {vs : List Value} {d : D} {ds : List D} (r : RdAll P H h vs (d :: ds)) : ∃ v us, vs = v :: us ∧ Rd P H h v d ∧ RdAll P H h us ds := by cases r; exact ⟨_, _, rfl, ‹_›, ‹_›⟩
theorem pys_inv {d : D} {ds : List D} {ps : List PyData} (e : D.pys (d :: ds) = some ps) : ∃ p qs, d.py = some p ∧ D.pys ds = some qs ∧ ps = p :: qs := by
  have e' : (match D.py d, D.pys ds with
    | some p, some ps => some (p :: ps)
    | _, _ => Option.none) = some ps := e
  cases hp : d.py with
  | none => rw [hp] at e'; cases e'
  | some p =>
    cases hq : D.pys ds with
    | none => rw [hp, hq] at e'; cases e'
    | some qs => rw [hp, hq] at e'; cases e'; exact ⟨p, qs, rfl, rfl, rfl⟩
mutual
theorem py_ok {P : Params} {h : Heap} : ∀ (d : D) {v : Value} {p : PyData}, Rd P H h v d → d.py = some p → (∃ as, Reads h v p as) ∧ p.canLay0 = true
  | .none, _, _, r, e => by cases r; cases e; exact ⟨⟨_, .none⟩, rfl⟩
  | .bool b, _, _, r, e => by cases r; cases e; exact ⟨⟨_, .bool b⟩, rfl⟩
  | .int i, _, _, r, e => by cases r; cases e; exact ⟨⟨_, .int i _⟩, rfl⟩
  | .str x, _, _, r, e => by cases r; cases e; exact ⟨⟨_, .str x _⟩, ‹_›⟩
  | .tuple ds, _, p, r, e => by
    obtain ⟨a, vs, n, rfl, c, _, r⟩ := r.tup_inv
    have e' : (D.pys ds).map PyData.tuple = some p := e
    obtain ⟨ps, hp, rfl⟩ := Option.map_eq_some_iff.mp e'
    obtain ⟨⟨as, q⟩, k⟩ := pys_ok ds r hp
    exact ⟨⟨_, .tuple c rfl rfl q⟩, k⟩
  | .list ds, _, p, r, e => by
    obtain ⟨a, vs, n, rfl, c, _, r⟩ := r.lst_inv
    have e' : (D.pys ds).map PyData.list = some p := e
    obtain ⟨ps, hp, rfl⟩ := Option.map_eq_some_iff.mp e'
    obtain ⟨⟨as, q⟩, k⟩ := pys_ok ds r hp
    exact ⟨⟨_, .list c rfl rfl q⟩, k⟩
  | .dict _, _, _, _, e => nomatch e
  | .range _ _, _, _, _, e => nomatch e
  | .exn _, _, _, _, e => nomatch e
  | .loc _, _, _, _, e => nomatch e
theorem pys_ok {P : Params} {h : Heap} : ∀ (ds : List D) {vs : List Value} {ps : List PyData}, RdAll P H h vs ds → D.pys ds = some ps → (∃ as, ReadsAll h vs ps as) ∧ PyData.canLayAll0 ps = true
  | [], _, _, r, e => by cases r; cases e; exact ⟨⟨_, .nil⟩, rfl⟩
  | d :: ds, _, _, r, e => by
    obtain ⟨v, us, rfl, a, r⟩ := r.cons_inv
    obtain ⟨p, qs, hp, hq, rfl⟩ := pys_inv e
    obtain ⟨⟨as, q⟩, k⟩ := py_ok d a hp
    obtain ⟨⟨bs, q'⟩, k'⟩ := pys_ok ds r hq
    exact ⟨⟨_, .cons q q'⟩, Bool.and_eq_true_iff.mpr ⟨k, k'⟩⟩
end
theorem pyAt_ok (I : Inv G fs H S s) {v : Value} {d : D} {p : PyData} (r : Rd G.P H s.heap v d) (e : pyAt S d = some p) : (∃ as, Reads s.heap v p as) ∧ p.canLay0 = true := by
  unfold pyAt at e
  split at e
  · rename_i n
    split at e
    · rename_i ds hS
      obtain ⟨a, vs, m, rfl, e2, _, e4⟩ := listOf_ok I r (ds := ds) (by rw [listOf_loc, hS])
      cases hp : D.pys ds with
      | none => rw [hp] at e; cases e
      | some ps =>
        rw [hp] at e; cases e
        obtain ⟨⟨as, q⟩, k⟩ := pys_ok _ e4 hp
        exact ⟨⟨_, .list e2 rfl rfl q⟩, k⟩
    · cases e
  · exact py_ok _ r e

theorem Rd.str_inv {h : Heap} {v : Value} {x : Str} (r : Rd G.P H h v (.str x)) : ∃ t, v = .str x t ∧ PyData.strOk x = true ∧ x.length ≤ sizeLine := by cases r; exact ⟨_, rfl, ‹_›, ‹_›⟩
theorem empty_eq {P : Params} {h : Heap} {vs : Array Value} {ds : List D} (q : RdAll P H h vs.toList ds) : (!vs.isEmpty) = !ds.isEmpty := by
  obtain ⟨vl⟩ := vs
  cases q <;> rfl
/-- truth -/
theorem truth_ok (I : Inv G fs H S s) {v : Value} {d : D} (r : Rd G.P H s.heap v d) : Wp G fs A RB H S s (truthy v) (truthM d) := by
  intro hne
  have fin : ∀ (b : Bool) tk, PV G fs RB H s.heap (Out.ok b S) b { s with toks := tk } := fun b tk => ⟨b, S, H, rfl, Ext.refl, I.toks, rfl⟩
  have key : ∀ {ds : List D}, listOf S d = some ds → wpAny G.M A (truthy v) (PV G fs RB H s.heap (Out.ok (!ds.isEmpty) S)) (PE G fs H s.heap (Out.ok (!ds.isEmpty) S)) s := by
    intro ds hl
    obtain ⟨a, vs, n, rfl, c, l, q⟩ := listOf_ok I r hl
    refine wpAny_truthy_list (Rd.isList c) (line63 l) ?_
    rw [empty_eq q]; exact fin _ _
  cases d with
  | none => cases r; exact wpAny_of_eq (a := false) (by rfl) (fin _ _)
  | bool c => cases r; exact wpAny_truthy_bool (fin _ _)
  | int i => cases r; exact P.truthy_int (fin _ _)
  | str x =>
    obtain ⟨t, rfl, q, l⟩ := r.str_inv
    refine P.truthy_str (by have := line63 l; omega) ?_
    have : (((x.length : Nat) : Int) != 0) = (x.length != 0) := by
      rw [Bool.eq_iff_iff]; simp
    rw [this]; exact fin _ _
  | tuple ds =>
    obtain ⟨a, vs, n, rfl, c, l, q⟩ := r.tup_inv
    refine PyProof.Rows.truthy_tuple (Rd.isTup c) (line63 l) ?_
    rw [empty_eq q]; exact fin _ _
  | list ds => exact key rfl
  | loc n =>
    have e : truthM (.loc n) S = optM ((listOf S (.loc n)).map fun ds => !ds.isEmpty) S := rfl
    rw [e] at hne ⊢
    cases hl : listOf S (.loc n) with
    | none => rw [hl] at hne; exact absurd rfl hne
    | some ds => exact key hl
  | _ => exact absurd rfl hne

noncomputable abbrev RV : Hid → Heap → Value → Bool → Prop := fun _ _ v b => v = .bool b

theorem notIn_of_in {M : Model} {E : Value → Shared → Prop} {a b : Value} {Q : Value → Shared → Prop} (h : wpAny M A (compareOp .In a b) (fun v s' => ∃ c, v = .bool c ∧ Q (.bool (!c)) s') E s) :
    wpAny M A (compareOp .NotIn a b) Q E s := by
  intro Γ p hΓ
  have q := h Γ p hΓ
  simp only [compareOp] at q ⊢
  rw [Sem.wp_bind'] at q ⊢
  refine Sem.wp_mono M Γ _ (fun c p' s' x => ?_) (fun _ _ _ x => x) p s q
  rw [Sem.wp_pure'] at x ⊢
  obtain ⟨c', e, y⟩ := x
  cases e; exact y

/-- dicts of written keys -/
theorem ents_find {P : Params} {h : Heap} (x : Str) : ∀ {es : List DictEntry} {kvs : List (Str × D)}, RdEnts P H h es kvs →
    (∀ d, kvs.lookup x = some d → ∃ v, (es.find? fun e => Value.isStrOf x e.key).map (·.val) = some v ∧ Rd P H h v d) ∧ (kvs.lookup x = none → (es.find? fun e => Value.isStrOf x e.key).map (·.val) = none)
  | _, _, .nil => ⟨fun d e => (by cases e), fun _ => rfl⟩
  | _, _, .cons (e := e) (x := y) (t := t) (d := d) k _ _ _ r q => by
    obtain ⟨i1, i2⟩ := ents_find x q
    have hk : Value.isStrOf x e.key = (x == y) := by
      rw [k]; show (y == x) = (x == y)
      exact BEq.comm
    rw [List.lookup_cons, List.find?_cons, hk]
    cases hb : x == y with
    | true => exact ⟨fun d' e => (by cases e; exact ⟨_, rfl, r⟩), fun e => (by cases e)⟩
    | false => exact ⟨i1, i2⟩
theorem ents_keys {h : Heap} : ∀ {es : List DictEntry} {kvs : List (Str × D)}, RdEnts G.P H h es kvs → ∀ e ∈ es, ∃ x, (strKind G.prog G.w).is x e.key = true ∧ e.hash = (strKind G.prog G.w).hash x
  | _, _, .nil, _, hm => by cases hm
  | _, _, .cons (x := y) (t := t) k _ _ hh r q, e, hm => by
    rcases List.mem_cons.mp hm with e | hm
    · subst e; exact ⟨y, by rw [k]; exact strKind_is G.prog G.w y t, hh⟩
    · exact ents_keys q e hm
theorem dict_map {h : Heap} {a : Addr} {es : Array DictEntry} {n : Nat} {kvs : List (Str × D)} (e : h.get? a = some (dicO es n)) (r : RdEnts G.P H h es.toList kvs) :
    h.MapOf (strKind G.prog G.w) a (fun k => findBy Value.isStrOf es k) :=
  ⟨_, es, n, e, ⟨rfl, rfl, rfl⟩, rfl, fun e he => ents_keys r e (Array.mem_toList_iff.mpr he), fun _ => rfl⟩
theorem findBy_list (x : Str) (es : Array DictEntry) : findBy Value.isStrOf es x = (es.toList.find? fun e => Value.isStrOf x e.key).map (·.val) := by
  unfold findBy
  rw [Array.find?_toList]

theorem eqM_val {a b : D} (hne : eqM a b S ≠ .stuck) : ∃ pa pb, pyAt S a = some pa ∧ pyAt S b = some pb ∧ min pa.depth pb.depth ≤ 600 ∧ eqM a b S = .ok (PyData.eqv pa pb) S := by
  unfold eqM at hne ⊢
  cases hp : pyAt S a with
  | none => rw [hp] at hne; exact absurd rfl hne
  | some pa =>
    cases hq : pyAt S b with
    | none => rw [hp, hq] at hne; exact absurd rfl hne
    | some pb =>
      rw [hp, hq] at hne
      dsimp only at hne ⊢
      by_cases hl : lineOf pa pb = true
      · exact ⟨pa, pb, rfl, rfl, of_decide_eq_true hl, by rw [if_pos hl]⟩
      · rw [if_neg hl] at hne; exact absurd rfl hne
theorem bnd_ne {α β : Type} {m : EM α} {f : α → EM β} (h : bnd m f S ≠ .stuck) : m S ≠ .stuck := fun q => h (by unfold bnd; rw [q])
theorem bnd_ok {α β : Type} {m : EM α} {f : α → EM β} {a : α} {S' : Store} (e : m S = .ok a S') : bnd m f S = f a S' := by unfold bnd; rw [e]

theorem eqM_ok (I : Inv G fs H S s) {v u : Value} {a b : D} (r : Rd G.P H s.heap v a) (q : Rd G.P H s.heap u b) (hu : A.units ≤ 9000) :
    Wp G fs A RV H S s (compareOp .Eq v u) (eqM a b) := by
  intro hne
  obtain ⟨pa, pb, hp, hq, hd, e⟩ := eqM_val hne
  rw [e]
  obtain ⟨⟨as, ra⟩, ka⟩ := pyAt_ok I r hp
  obtain ⟨⟨bs, rb⟩, kb⟩ := pyAt_ok I q hq
  exact SeqAt.compareEq_reads ra rb ka kb (by show A.units + min pa.depth pb.depth < 9900; omega) ⟨_, S, H, rfl, Ext.refl, I, rfl⟩

theorem neM_ok (I : Inv G fs H S s) {v u : Value} {a b : D} (r : Rd G.P H s.heap v a) (q : Rd G.P H s.heap u b) (hu : A.units ≤ 9000) :
    Wp G fs A RV H S s (compareOp .NotEq v u) (bnd (eqM a b) fun c => ret (!c)) := by
  intro hne
  obtain ⟨pa, pb, hp, hq, hd, e⟩ := eqM_val (bnd_ne hne)
  rw [bnd_ok e]
  obtain ⟨⟨as, ra⟩, ka⟩ := pyAt_ok I r hp
  obtain ⟨⟨bs, rb⟩, kb⟩ := pyAt_ok I q hq
  exact SeqAt.compareNe_reads ra rb ka kb (by show A.units + min pa.depth pb.depth < 9900; omega) ⟨_, S, H, rfl, Ext.refl, I, rfl⟩

theorem isM_v {h : Heap} {v u : Value} {a b : D} (r : Rd G.P H h v a) (q : Rd G.P H h u b) (hne : isM a b S ≠ .stuck) :
    (u = .none ∧ isM a b = ret (v == .none)) ∨ (∃ c, u = .bool c ∧ isM a b = ret (v == .bool c) ∧ plainIs v (.bool c) = true) := by
  cases b with
  | none =>
    cases q
    refine .inl ⟨rfl, ?_⟩
    cases r <;> rfl
  | bool c =>
    cases q
    refine .inr ⟨c, rfl, ?_⟩
    cases r with
    | bool b => cases b <;> cases c <;> exact ⟨rfl, rfl⟩
    | _ => exact ⟨rfl, rfl⟩
  | _ => exact absurd rfl hne
theorem isM_ok (I : Inv G fs H S s) {v u : Value} {a b : D} (r : Rd G.P H s.heap v a) (q : Rd G.P H s.heap u b) :
    Wp G fs A RV H S s (compareOp .Is v u) (isM a b) := by
  intro hne
  rcases isM_v r q hne with ⟨rfl, e⟩ | ⟨c, rfl, e, p⟩
  · rw [e]; exact is_none ⟨_, S, H, rfl, Ext.refl, I, rfl⟩
  · rw [e]; exact wpAny_is_plain p ⟨_, S, H, rfl, Ext.refl, I, rfl⟩
theorem isNotM_ok (I : Inv G fs H S s) {v u : Value} {a b : D} (r : Rd G.P H s.heap v a) (q : Rd G.P H s.heap u b) :
    Wp G fs A RV H S s (compareOp .IsNot v u) (bnd (isM a b) fun c => ret (!c)) := by
  intro hne
  rcases isM_v r q (bnd_ne hne) with ⟨rfl, e⟩ | ⟨c, rfl, e, p⟩
  · rw [e]; exact isNot_none ⟨_, S, H, rfl, Ext.refl, I, rfl⟩
  · rw [e]; exact wpAny_isNot_plain p ⟨_, S, H, rfl, Ext.refl, I, rfl⟩

/-- what «in» gives, for every end -/
noncomputable def InOk (G : Glo) (A : Around) (s : Shared) (S : Store) (v u : Value) (o : Out Bool) : Prop := o = .stuck ∨ ∃ c, o = .ok c S ∧ ∀ {Q : Value → Shared → Prop} {E : Value → Shared → Prop}, (∀ tk, Q (.bool c) { s with toks := tk }) → wpAny G.M A (compareOp .In v u) Q E s
theorem inL_val {a : D} {ds : List D} : inL ds a S = .stuck ∨ ∃ ps pa, D.pys ds = some ps ∧ pyAt S a = some pa ∧ min (PyData.depthAll ps) pa.depth ≤ 600 ∧ inL ds a S = .ok (ps.any fun p => PyData.eqv p pa) S := by
  unfold inL
  cases hp : D.pys ds with
  | none => exact .inl rfl
  | some ps =>
    cases hq : pyAt S a with
    | none => exact .inl rfl
    | some pa =>
      by_cases hd : min (PyData.depthAll ps) pa.depth ≤ 600
      · refine .inr ⟨ps, pa, rfl, rfl, hd, ?_⟩
        dsimp only
        unfold anyEq
        rw [if_pos (decide_eq_true hd)]; rfl
      · refine .inl ?_
        dsimp only
        unfold anyEq
        rw [if_neg (by simpa using hd)]; rfl
theorem in_list (I : Inv G fs H S s) {v u : Value} {a b : D} {ds : List D} (r : Rd G.P H s.heap v a) (q : Rd G.P H s.heap u b) (hu : A.units ≤ 9000) (hl : listOf S b = some ds) : InOk G A s S v u (inL ds a S) := by
  rcases inL_val (S := S) (a := a) (ds := ds) with e | ⟨ps, pa, h1, h2, hd, e⟩
  · exact .inl e
  · obtain ⟨x, vs, n, rfl, e2, e3, e4⟩ := listOf_ok I q hl
    obtain ⟨⟨as, ra⟩, ka⟩ := pys_ok _ e4 h1
    obtain ⟨⟨bs, rb⟩, kb⟩ := pyAt_ok I r h2
    exact .inr ⟨_, e, fun h => SeqAt.in_list_reads (.list e2 rfl rfl ra) rb ka kb (by show A.units + 1 + min (PyData.depthAll ps) pa.depth < 9900; omega) (h s.toks)⟩
theorem inM_any (I : Inv G fs H S s) {v u : Value} {a b : D} (r : Rd G.P H s.heap v a) (q : Rd G.P H s.heap u b) (hu : A.units ≤ 9000) : InOk G A s S v u (inM a b S) := by
  cases b with
  | str y =>
    obtain ⟨t, rfl, _, _⟩ := q.str_inv
    cases a with
    | str x =>
      obtain ⟨t', rfl, _, _⟩ := r.str_inv
      exact .inr ⟨_, rfl, fun h => P.in_str (h s.toks)⟩
    | _ => exact .inl rfl
  | dict kvs =>
    cases a with
    | str x =>
      obtain ⟨t', rfl, _, _⟩ := r.str_inv
      cases q with | dict a1 a2 a3 a4 a5 a6 a7 =>
      rename_i es n
      refine .inr ⟨_, rfl, fun h => wpAny_in_of (knd := strKind G.prog G.w) (strKind_is G.prog G.w x t') (beq_false_of_ne a7) (dict_map a3 a6) ?_⟩
      have : (findBy Value.isStrOf es x).isSome = (kvs.lookup x).isSome := by
        rw [findBy_list]
        obtain ⟨i1, i2⟩ := ents_find x a6
        cases hk : kvs.lookup x with
        | none => rw [i2 hk]; rfl
        | some d => obtain ⟨w', hw, _⟩ := i1 d hk; rw [hw]; rfl
      rw [this]; exact h _
    | _ => exact .inl rfl
  | tuple ds =>
    rcases inL_val (S := S) (a := a) (ds := ds) with e | ⟨ps, pa, h1, h2, hd, e⟩
    · exact .inl e
    · obtain ⟨x, vs, n, rfl, a3, _, a5⟩ := q.tup_inv
      obtain ⟨⟨as, ra⟩, ka⟩ := pys_ok _ a5 h1
      obtain ⟨⟨bs, rb⟩, kb⟩ := pyAt_ok I r h2
      exact .inr ⟨_, e, fun h => SeqAt.in_tuple_reads (.tuple a3 rfl rfl ra) rb ka kb (by show A.units + 1 + min (PyData.depthAll ps) pa.depth < 9900; omega) (h s.toks)⟩
  | list ds => exact in_list I r q hu rfl
  | loc n =>
    have e : inM a (.loc n) S = (match listOf S (.loc n) with
      | some ds => inL ds a S
      | none => .stuck) := rfl
    rw [e]
    cases hl : listOf S (.loc n) with
    | none => exact .inl rfl
    | some ds => exact in_list I r q hu hl
  | _ => exact .inl rfl

theorem inM_ok (I : Inv G fs H S s) {v u : Value} {a b : D} (r : Rd G.P H s.heap v a) (q : Rd G.P H s.heap u b) (hu : A.units ≤ 9000) :
    Wp G fs A RV H S s (compareOp .In v u) (inM a b) := by
  intro hne
  rcases inM_any I r q hu with e | ⟨c, e, h⟩
  · exact absurd e hne
  · rw [e]; exact h fun tk => ⟨_, S, H, rfl, Ext.refl, I.toks, rfl⟩
theorem notInM_ok (I : Inv G fs H S s) {v u : Value} {a b : D} (r : Rd G.P H s.heap v a) (q : Rd G.P H s.heap u b) (hu : A.units ≤ 9000) :
    Wp G fs A RV H S s (compareOp .NotIn v u) (bnd (inM a b) fun c => ret (!c)) := by
  intro hne
  rcases inM_any I r q hu with e | ⟨c, e, h⟩
  · exact absurd e (bnd_ne hne)
  · rw [bnd_ok e]; exact notIn_of_in (h fun tk => ⟨_, rfl, _, S, H, rfl, Ext.refl, I.toks, rfl⟩)

theorem Rd.int_inv {h : Heap} {v : Value} {i : Int} (r : Rd G.P H h v (.int i)) : ∃ t, v = .int i t := by cases r; exact ⟨_, rfl⟩
theorem onInts_ok {α β : Type} {R : Hid → Heap → α → β → Prop} {m : Sem α} {v u : Value} {a b : D} {k : Int → Int → EM β} {z : EM β} (r : Rd G.P H s.heap v a) (q : Rd G.P H s.heap u b)
    (hk : ∀ i j t t', a = .int i → b = .int j → v = .int i t → u = .int j t' → Wp G fs A R H S s m (k i j)) (hz : Wp G fs A R H S s m z) : Wp G fs A R H S s m (onInts a b k z) := by
  unfold onInts
  split
  · split
    · obtain ⟨t, e⟩ := r.int_inv
      obtain ⟨t', e'⟩ := q.int_inv
      exact hk _ _ t t' rfl rfl e e'
    · exact hz
  · exact hz
theorem onStrs_ok {α β : Type} {R : Hid → Heap → α → β → Prop} {m : Sem α} {v u : Value} {a b : D} {k : Str → Str → EM β} {z : EM β} (r : Rd G.P H s.heap v a) (q : Rd G.P H s.heap u b)
    (hk : ∀ x y t t', a = .str x → b = .str y → v = .str x t → u = .str y t' → PyData.strOk x = true → PyData.strOk y = true → Wp G fs A R H S s m (k x y)) (hz : Wp G fs A R H S s m z) : Wp G fs A R H S s m (onStrs a b k z) := by
  unfold onStrs
  split
  · split
    · obtain ⟨t, e, h1, _⟩ := r.str_inv
      obtain ⟨t', e', h2, _⟩ := q.str_inv
      exact hk _ _ t t' rfl rfl e e' h1 h2
    · exact hz
  · exact hz
theorem onTups_ok {α β : Type} {R : Hid → Heap → α → β → Prop} {m : Sem α} {a b : D} {k : List D → List D → EM β} {z : EM β}
    (hk : ∀ x y, a = .tuple x → b = .tuple y → Wp G fs A R H S s m (k x y)) (hz : Wp G fs A R H S s m z) : Wp G fs A R H S s m (onTups a b k z) := by
  unfold onTups
  split
  · split
    · exact hk _ _ rfl rfl
    · exact hz
  · exact hz

theorem cmp_ok (I : Inv G fs H S s) {v u : Value} {a b : D} (r : Rd G.P H s.heap v a) (q : Rd G.P H s.heap u b) (hu : A.units ≤ 9000) (op : CmpOp) :
    Wp G fs A RV H S s (compareOp op v u) (cmpM op a b) := by
  have done : ∀ c : Bool, PV G fs RV H s.heap (ret c S) (.bool c) s := fun c => ⟨c, S, H, rfl, Ext.refl, I, rfl⟩
  cases op with
  | Eq => exact eqM_ok I r q hu
  | NotEq => exact neM_ok I r q hu
  | Is => exact isM_ok I r q
  | IsNot => exact isNotM_ok I r q
  | In => exact inM_ok I r q hu
  | NotIn => exact notInM_ok I r q hu
  | Lt => exact onInts_ok r q (fun i j t t' _ _ e e' _ => by rw [e, e']; exact P.lt_int (done _)) (onStrs_ok r q (fun i j t t' _ _ e e' _ _ _ => by rw [e, e']; exact P.lt_str (done _)) Wp.stk)
  | LtE => exact onInts_ok r q (fun i j t t' _ _ e e' _ => by rw [e, e']; exact P.le_int (done _)) Wp.stk
  | Gt => exact onInts_ok r q (fun i j t t' _ _ e e' _ => by rw [e, e']; exact P.gt_int (done _)) Wp.stk
  | GtE => exact onInts_ok r q (fun i j t t' _ _ e e' _ => by rw [e, e']; exact P.ge_int (done _)) (onStrs_ok r q (fun i j t t' _ _ e e' _ _ _ => by rw [e, e']; exact P.ge_str (done _)) Wp.stk)
end
end Mine
end

section
set_option maxRecDepth 100000
namespace Mine
open PySem

/-- a def of a plain kind -/
noncomputable def fnOk (fn : Fn) : Bool := fn.scope.kind == .function && !fn.scope.isCoroutine && !fn.scope.isGenerator && decide fn.params.Nodup && decide (fn.scope.names.map (·.1)).Nodup &&
  fn.params.all fun x => match slot fn.scope.names x with
    | some (_, .local) => true
    | some (_, .cell) => true
    | _ => false

noncomputable def biNames : List Str := ["len", "range", "all", "any", "tuple", "list", "int", "bool", "str", "isinstance", "min", "max", "sorted", "reversed", "ValueError"]

structure Cxt (G : Glo) (fs : List Env) (A : Around) (n : Nat) : Prop where
  handled : A.handled = none
  frames : A.frames = some fs
  head : ∃ env l, fs = env :: l ∧ env.scope.isGenerator = false ∧ env.scope.isCoroutine = false ∧ env.builtins = builtinsNs ∧ env.globals = mainGlobals
  depth : A.depth + n ≤ 850
  units : A.units + 4 * n ≤ 8900

/-- a method's own law -/
structure MImpl.Sound (m : Str) (i : MImpl) : Prop where
  find : ∀ {G : Glo} {fs : List Env} {H : Hid} {S : Store} {s : Shared} {v : Value} {a : D}, Inv G fs H S s → Rd G.P H s.heap v a → i.ok S a = true →
    ∃ T, PlainAttrs T ∧ Slot T m (i.id a) ∧ typeOf (.builtin (i.id a)) = pure (.type "method_descriptor") ∧ s.TypeIs v T ∧ (∀ b, v = .ref b → ∃ ob, s.heap.get? b = some ob ∧ ob.dict = none)
  run : ∀ {G : Glo} {fs : List Env} {A : Around} {n : Nat} {H : Hid} {S : Store} {s : Shared} {v : Value} {a : D} {vs : List Value} {ds : List D}, Cxt G fs A n → Inv G fs H S s → Rd G.P H s.heap v a → RdAll G.P H s.heap vs ds →
    Wp G fs A (RR G) H S s (call (.builtin (i.id a)) (v :: vs)) (i.run a ds)

/-- a built-in function's own law -/
structure BImpl.Sound (x : Str) (i : BImpl) : Prop where
  mem : x ∈ biNames
  boot : bootBuiltins x = some i.val
  ne : x ≠ "__name__"
  val : ∃ id, i.val = .builtin id
  run : ∀ {G : Glo} {fs : List Env} {A : Around} {n : Nat} {H : Hid} {S : Store} {s : Shared} {vs : List Value} {ds : List D} (own : Bool), Cxt G fs A n → Inv G fs H S s → RdAll G.P H s.heap vs ds →
    Wp G fs A (RR G) H S s (call i.val vs) (i.run own ds)

/-- tuple(reversed(t)) -/
noncomputable def RevSound : Prop := ∀ {G : Glo} {fs : List Env} {A : Around} {n : Nat} {H : Hid} {S : Store} {s : Shared} {v : Value} {ds : List D}, Cxt G fs A n → Inv G fs H S s → Rd G.P H s.heap v (.tuple ds) →
  wpAny G.M A (call (.type "reversed") [v]) (fun w s1 => wpAny G.M A (call (.type "tuple") [w]) (PV G fs (RR G) H s.heap (Out.ok (.tuple ds.reverse) S)) (PE G fs H s.heap (Out.ok (.tuple ds.reverse) S : Out D)) s1) (PE G fs H s.heap (Out.ok (.tuple ds.reverse) S : Out D)) s

/-- a tuple times 0 or 1 -/
noncomputable def MulSound : Prop := ∀ {G : Glo} {fs : List Env} {A : Around} {n : Nat} {H : Hid} {S : Store} {s : Shared} {v u : Value} {a b : D}, Cxt G fs A n → Inv G fs H S s → Rd G.P H s.heap v a → Rd G.P H s.heap u b →
  Wp G fs A (RR G) H S s (binaryOp .Mult v u) (mulT a b)

structure Glo.Ok (G : Glo) : Prop where
  g : G.B.heap.Ns mainGlobals G.mg
  b : G.B.heap.Ns builtinsNs G.mb
  nolimit : G.B.heap.NoLimit
  seer : G.B.heap.NoSeer
  tree : G.prog.given.tree = none
  builtins : ∀ x : Str, x ≠ "__name__" → G.mb x = bootBuiltins x
  fn : ∀ f fn, G.C.fns.lookup f = some fn → ∃ a o params pm code doc, G.mg f = some (.ref a) ∧ G.B.heap.get? a = some o ∧
    o.data = .func (Calls.docDef f params fn.body fn.scope pm code doc) ∧ G.B.heap.CodeRec code f ∧ fnOk fn = true ∧ ∀ vs : List Value, vs.length = fn.params.length → bindArgs (Calls.docDef f params fn.body fn.scope pm code doc) ⟨vs, []⟩ = pure (fn.params.zip vs)
  miss : ∀ x ∈ biNames, G.mg x = none
  const : ∀ x d, G.C.consts.lookup x = some d → ∃ v, G.mg x = some v ∧ Rd G.P ⟨[], []⟩ G.B.heap v d
  meths : ∀ m i, G.C.meths.lookup m = some i → MImpl.Sound m i
  bfs : ∀ x i, G.C.bfs.lookup x = some i → BImpl.Sound x i
  rev : G.C.rev = true → RevSound
  mul : ∀ p, G.C.mul p = true → MulSound

section
variable {G : Glo} {fs : List Env} {A : Around} {H : Hid} {S : Store} {s : Shared} {n : Nat}

theorem Cxt.in1 (x : Cxt G fs A n) : A.in1.units ≤ 8901 := by have := x.units; show A.units + 1 ≤ _; omega

theorem pylong_ok (K : G.Ok) (x : Cxt G fs A n) (I : Inv G fs H S s) : PylongRoom G.M A s := by
  obtain ⟨env, l, e, h1, h2, h3, h4⟩ := x.head
  refine PylongRoom.of (K.nolimit.keeps I.stays) ?_ (SeerAt.of (K.seer.keeps I.stays) K.tree (x.frames.trans (congrArg some e)) h1 h2 h3 h4)
  have := x.depth
  show A.depth + 100 < 1000
  omega

/-- a new thing of the store -/
theorem newStore (I : Inv G fs H S s) {tk : Nat} {h' : Heap} {a : Addr} {p : SObj} (k : ∀ b o, s.heap.get? b = some o → h'.get? b = some o) (ha : s.heap.objs.size ≤ a) (hg : ∃ o, h'.get? a = some o)
    (r : (∀ b o, b ∉ H.ρ → b ∉ H.fr → s.heap.get? b = some o → (b ∉ H.ρ ++ [a] ∧ b ∉ H.fr ∧ h'.get? b = some o)) → (∀ (m : Nat) (b : Addr), H.ρ[m]? = some b → (H.ρ ++ [a])[m]? = some b) → SAt G.P ⟨H.ρ ++ [a], H.fr⟩ h' a p) :
    PV G fs (RR G) H s.heap (.ok (.loc S.length) (S ++ [p])) (.ref a) { s with heap := h', toks := tk } := by
  obtain ⟨og, hg⟩ := hg
  have hsz : s.heap.objs.size ≤ h'.objs.size := Nat.le_of_lt (Nat.lt_of_le_of_lt ha (Heap.lt_size hg))
  have x : Ext [] H s.heap H h' := Ext.of_keeps k hsz
  have aS : a ∉ H.ρ := fun q => absurd (I.ltS q) (Nat.not_lt.mpr ha)
  have aF : a ∉ H.fr := fun q => absurd (I.ltF q) (Nat.not_lt.mpr ha)
  have hp : ∀ (m : Nat) (b : Addr), H.ρ[m]? = some b → (H.ρ ++ [a])[m]? = some b := fun m b e => prefix_get rfl e
  have hk : ∀ b o, b ∉ H.ρ → b ∉ H.fr → s.heap.get? b = some o → (b ∉ H.ρ ++ [a] ∧ b ∉ H.fr ∧ h'.get? b = some o) := fun b o h1 h2 e =>
      ⟨by
        intro q
        rcases List.mem_append.mp q with q | q
        · exact h1 q
        · simp only [List.mem_singleton] at q
          exact absurd (Heap.lt_size e) (by rw [q]; exact Nat.not_lt.mpr ha), h2, k b o e⟩
  refine ⟨.loc S.length, S ++ [p], ⟨H.ρ ++ [a], H.fr⟩, rfl, ⟨rfl, ⟨[a], rfl, by simpa using ha⟩, x.keep, x.keepF, x.size⟩, ?_, .loc (by rw [← I.len]; simp)⟩
  have J := I.grow (tk := tk) k
  refine ⟨J.stays, ?_, J.newF, ?_, J.liveF, ?_, by simp [I.len], ?_, ?_, J.gens, J.os⟩
  · intro b hb
    rcases List.mem_append.mp hb with q | q
    · exact I.newS b q
    · simp only [List.mem_singleton] at q
      subst q
      cases hq : G.B.heap.get? b with
      | none => rfl
      | some o => exact absurd (Heap.lt_size (I.stays b o hq)) (Nat.not_lt.mpr ha)
  · intro b hb
    rcases List.mem_append.mp hb with q | q
    · exact I.off b q
    · simp only [List.mem_singleton] at q; subst q; exact aF
  · rw [List.nodup_append]
    refine ⟨I.nodup, by simp, ?_⟩
    intro b hb c hc q
    simp only [List.mem_singleton] at hc
    subst hc; subst q
    exact aS hb
  · intro m o e
    rcases Nat.lt_or_ge m S.length with hm | hm
    · rw [List.getElem?_append_left hm] at e
      obtain ⟨b, e1, e2⟩ := I.objs m o e
      exact ⟨b, hp m b e1, e2.ext hk hp fun ob q => k _ _ q⟩
    · have hm' : m = S.length := by
        have := (List.getElem?_eq_some_iff.mp e).1
        simp at this; omega
      subst hm'
      simp at e
      subst e
      exact ⟨a, by rw [← I.len]; simp, r hk hp⟩
  · exact J.fa.step (fun _ q => q) fun b o _ e => ⟨o, e, fun q => q⟩

theorem newListAt (I : Inv G fs H S s) {vs : List Value} {ds : List D} (r : RdAll G.P H s.heap vs ds) (hz : vs.length ≤ sizeLine) (C : Cfg) (pos : Pos) {tk c : Nat} {h' : Heap} {a : Addr}
    (k : ∀ b o, s.heap.get? b = some o → h'.get? b = some o) (ha : s.heap.objs.size ≤ a) (hg : h'.get? a = some (lstO vs.toArray c)) :
    PV G fs (RR G) H s.heap (mkList C pos ds S) (.ref a) { s with heap := h', toks := tk } := by
  unfold mkList
  by_cases ho : C.own pos = true
  · rw [if_pos ho]
    exact newStore I k ha ⟨_, hg⟩ fun hk hp => ⟨vs.toArray, c, hg, by simpa using hz, by simpa using RdAll.ext (H := H) (H' := ⟨H.ρ ++ [a], H.fr⟩) hk hp r⟩
  · rw [if_neg ho]
    have x : Ext [] H s.heap H h' := Ext.of_keeps k (Nat.le_of_lt (Nat.lt_of_le_of_lt ha (Heap.lt_size hg)))
    exact ⟨.list ds, S, H, rfl, x, I.grow k, .list (fun q => absurd (I.ltS q) (Nat.not_lt.mpr ha)) (fun q => absurd (I.ltF q) (Nat.not_lt.mpr ha)) hg (by simpa using hz) (by simpa using r.step x)⟩
theorem newList_ok (I : Inv G fs H S s) {vs : List Value} {ds : List D} (r : RdAll G.P H s.heap vs ds) (hz : vs.length ≤ sizeLine) (C : Cfg) (pos : Pos) {tk : Nat} :
    PV G fs (RR G) H s.heap (mkList C pos ds S) (.ref s.heap.objs.size) { s with heap := s.heap.push (lstO vs.toArray 0), toks := tk } :=
  newListAt I r hz C pos (fun _ _ e => Heap.get?_push_of_some _ e) (Nat.le_refl _) (Heap.get?_push_size _ rfl)

theorem newTupleAt (I : Inv G fs H S s) {vs : List Value} {ds : List D} (r : RdAll G.P H s.heap vs ds) (hz : vs.length ≤ sizeLine) {tk c : Nat} {h' : Heap} {a : Addr}
    (k : ∀ b o, s.heap.get? b = some o → h'.get? b = some o) (hsz : s.heap.objs.size ≤ h'.objs.size) (ha : s.heap.get? a = none) (hg : h'.get? a = some (tupO vs.toArray c)) :
    PV G fs (RR G) H s.heap (ret (.tuple ds) S) (.ref a) { s with heap := h', toks := tk } := by
  have x : Ext [] H s.heap H h' := Ext.of_keeps k hsz
  exact ⟨.tuple ds, S, H, rfl, x, I.grow k, .tuple (fun q => by obtain ⟨o, e⟩ := I.liveS q; rw [ha] at e; cases e) (fun q => by obtain ⟨o, e⟩ := I.liveF a q; rw [ha] at e; cases e) hg (by simpa using hz) (by simpa using r.step x)⟩
theorem newTuple_ok (I : Inv G fs H S s) {vs : List Value} {ds : List D} (r : RdAll G.P H s.heap vs ds) (hz : vs.length ≤ sizeLine) {tk : Nat} :
    PV G fs (RR G) H s.heap (ret (.tuple ds) S) (.ref s.heap.objs.size) { s with heap := s.heap.push (tupO vs.toArray 0), toks := tk } :=
  newTupleAt I r hz (fun _ _ e => Heap.get?_push_of_some _ e) (size_push_le _ _) (PyProof.Rows.fresh_above s.heap 0) (Heap.get?_push_size _ rfl)

theorem PV.int {i : Int} {t tk : Nat} (I : Inv G fs H S s) : PV G fs (RR G) H s.heap (ret (.int i) S) (.int i t) { s with toks := tk } := ⟨_, S, H, rfl, Ext.refl, I.toks, .int i t⟩
theorem strOk_append {x y : Str} (hx : PyData.strOk x = true) (hy : PyData.strOk y = true) : PyData.strOk (x ++ y) = true := by
  unfold PyData.strOk at *
  show (x.cps ++ y.cps).all _ = true
  rw [Array.all_append, hx, hy]; rfl

theorem small_bits {i : Int} (h : small i = true) : Builtin.Int.intBits i ≤ 64 := by
  have h' : i.natAbs < 2 ^ 62 := of_decide_eq_true h
  unfold Builtin.Int.intBits
  split
  · omega
  · rename_i q
    have q' : i.natAbs ≠ 0 := by
      intro e
      exact q (by simpa using e)
    have : i.natAbs.log2 < 62 := (Nat.log2_lt q').mpr h'
    omega

theorem addLists_ok (K : G.Ok) (I : Inv G fs H S s) {v u : Value} {a b : D} (r : Rd G.P H s.heap v a) (q : Rd G.P H s.heap u b) (C : Cfg) (pos : Pos) :
    Wp G fs A (RR G) H S s (binaryOp .Add v u) (addLists C pos a b) := by
  intro hne
  unfold addLists at hne ⊢
  cases ha : listOf S a with
  | none => rw [ha] at hne; exact absurd rfl hne
  | some xs =>
    cases hb : listOf S b with
    | none => rw [ha, hb] at hne; exact absurd rfl hne
    | some ys =>
      rw [ha, hb] at hne
      dsimp only at hne ⊢
      obtain ⟨x, vs, m, rfl, e2, e3, e4⟩ := listOf_ok I r ha
      obtain ⟨y, ws, k, rfl, f2, f3, f4⟩ := listOf_ok I q hb
      by_cases hz : xs.length + ys.length ≤ sizeLine
      · rw [if_pos hz]
        have l1 := e4.length
        have l2 := f4.length
        simp only [Array.length_toList] at l1 l2
        refine P.add_list e2 f2 ?_ (by omega)
        have := newList_ok (tk := s.toks) I (e4.append f4) (by simp; omega) C pos
        rw [show (vs.toList ++ ws.toList).toArray = vs ++ ws from by simp] at this
        exact this
      · rw [if_neg hz] at hne; exact absurd rfl hne

theorem addTuples_ok (I : Inv G fs H S s) {v u : Value} {xs ys : List D} (r : Rd G.P H s.heap v (.tuple xs)) (q : Rd G.P H s.heap u (.tuple ys)) (hz : xs.length + ys.length ≤ sizeLine) :
    wpAny G.M A (binaryOp .Add v u) (PV G fs (RR G) H s.heap (ret (.tuple (xs ++ ys)) S)) (PE G fs H s.heap (ret (.tuple (xs ++ ys)) S : Out D)) s := by
  have q0 := q
  have r0 := r
  cases r with
  | tuple a1 a2 a3 a4 a5 =>
    cases q with
    | tuple b1 b2 b3 b4 b5 =>
      rename_i t1 vs m t2 ws k
      have l1 := a5.length
      have l2 := b5.length
      simp only [Array.length_toList] at l1 l2
      by_cases h1 : vs.isEmpty = true
      · have hx : xs = [] := List.length_eq_zero_iff.mp (by have : vs.size = 0 := by simpa using h1
                                                            omega)
        subst hx
        exact concat_meets ⟨_, a3, rfl⟩ ⟨_, b3, rfl⟩ noFill_tuple_add seq_tuple_add PySem.F.slot_tuple_add PySem.F.entry_tuple_add (PySem.F.args_tuple_add_2 _ _)
          (PyProof.Rows.tuple_addW0 t1 t2 vs ws m k none none #[] #[] h1) ⟨a3, b3, ⟨_, S, H, rfl, Ext.refl, I, q0⟩⟩
      · by_cases h2 : ws.isEmpty = true
        · have hy : ys = [] := List.length_eq_zero_iff.mp (by have : ws.size = 0 := by simpa using h2
                                                              omega)
          subst hy
          exact concat_meets ⟨_, a3, rfl⟩ ⟨_, b3, rfl⟩ noFill_tuple_add seq_tuple_add PySem.F.slot_tuple_add PySem.F.entry_tuple_add (PySem.F.args_tuple_add_2 _ _)
            (PyProof.Rows.tuple_addW1 t1 t2 vs ws m k none none #[] #[] h1 h2) ⟨a3, b3, ⟨_, S, H, rfl, Ext.refl, I, by simpa using r0⟩⟩
        · refine P.add_tuple a3 b3 h1 h2 ?_ (by omega)
          have := newTuple_ok (tk := s.toks) I (a5.append b5) (by simp; omega)
          rw [show (vs.toList ++ ws.toList).toArray = vs ++ ws from by simp] at this
          exact this

theorem wp_ite {α β : Type} {R : Hid → Heap → α → β → Prop} {m : Sem α} {c : Prop} [Decidable c] {k : EM β} (h : c → Wp G fs A R H S s m k) : Wp G fs A R H S s m (if c then k else stk) := by
  split
  · exact h ‹_›
  · exact Wp.stk
theorem wp_iteN {α β : Type} {R : Hid → Heap → α → β → Prop} {m : Sem α} {c : Prop} [Decidable c] {k : EM β} (h : ¬ c → Wp G fs A R H S s m k) : Wp G fs A R H S s m (if c then stk else k) := by
  split
  · exact Wp.stk
  · exact h ‹_›
theorem binop_ok (K : G.Ok) (c : Cxt G fs A n) (I : Inv G fs H S s) {v u : Value} {a b : D} (r : Rd G.P H s.heap v a) (q : Rd G.P H s.heap u b) (C : Cfg) (pos : Pos) (op : Operator) (hC : ∀ p, C.mul p = true → MulSound) :
    Wp G fs A (RR G) H S s (binaryOp op v u) (binop C pos op a b) := by
  cases op with
  | Add =>
    refine onInts_ok r q (fun i j t t' _ _ e e' _ => by rw [e, e']; exact P.add_int (PV.int I)) (onStrs_ok r q (fun x y t t' _ _ e e' hx hy => wp_ite fun hz _ => ?_) (onTups_ok (fun x y e e' => wp_ite fun hz => ?_) (addLists_ok K I r q C pos)))
    · rw [e, e']
      exact PyProof.Rows.add_str (fun t' tk => ⟨_, S, H, rfl, Ext.refl, I.toks, .str _ _ (strOk_append hx hy) (by rw [Str.length_append]; exact hz)⟩) hz
    · subst e; subst e'; exact fun _ => addTuples_ok I r q hz
  | Sub => exact onInts_ok r q (fun i j t t' _ _ e e' _ => by rw [e, e']; exact P.sub_int (PV.int I)) Wp.stk
  | Mult => exact onInts_ok r q (fun i j t t' _ _ e e' => wp_ite fun hz _ => by rw [e, e']; exact P.mul_int (PV.int I) (IntMulOk.of_left (small_bits (Bool.and_eq_true_iff.mp hz).1))) (wp_ite fun hm => hC _ hm c I r q)
  | FloorDiv => exact onInts_ok r q (fun i j t t' _ _ e e' => wp_iteN fun hz _ => by rw [e, e']; exact PyProof.Rows.floordiv_int hz (PV.int I) (Or.inr (pylong_ok K c I))) Wp.stk
  | Mod => exact onInts_ok r q (fun i j t t' _ _ e e' => wp_iteN fun hz _ => by rw [e, e']; exact PyProof.Rows.mod_int' hz (PV.int I)) Wp.stk
  | Pow =>
    refine onInts_ok r q (fun i j t t' _ _ e e' => wp_ite fun hz _ => ?_) Wp.stk
    simp only [Bool.and_eq_true, decide_eq_true_eq] at hz
    obtain ⟨⟨rfl, h1⟩, h2⟩ := hz
    rw [e, e']
    exact PyProof.Rows.pow_int_small h1 (by omega) (by decide) (PV.int I)
  | _ => exact Wp.stk

theorem unop_ok (I : Inv G fs H S s) {v : Value} {a : D} (r : Rd G.P H s.heap v a) (op : UnaryOp) : Wp G fs A (RR G) H S s (unaryOp op v) (unop op a) := by
  cases op with
  | USub =>
    unfold unop
    dsimp only
    split
    · cases r; exact fun _ => P.neg_int (PV.int I)
    · exact Wp.stk
  | Not =>
    intro hne
    refine not_value ?_
    exact (truth_ok (A := A) I r).seq hne fun w b H1 S1 s1 e x i q n e' => by
      subst q
      exact ⟨_, S1, H1, e', x, i, .bool _⟩
  | _ => exact Wp.stk
end
end Mine
end

section
set_option maxRecDepth 100000
namespace Mine
open PySem

theorem clip_bounds (lo hi : Option Int) (n : Nat) : sliceBounds lo hi none n = (((clip lo 0 n : Nat) : Int), ((clip hi n n : Nat) : Int), 1) := by
  unfold sliceBounds clip
  have h1 : ((1 : Int) > 0) = True := by simp
  cases lo <;> cases hi <;> simp only [Option.getD_none, h1, if_true, Prod.mk.injEq, and_true, true_and] <;> (try constructor) <;> (try split) <;> omega

theorem clip_le (v : Option Int) (d n : Nat) (hd : d ≤ n) : clip v d n ≤ n := by
  unfold clip
  cases v with
  | none => exact hd
  | some i => dsimp only; split <;> omega

theorem pick_cut {α : Type} (xs : Array α) (lo hi : Option Int) : ((sliceRange ((clip lo 0 xs.size : Nat) : Int) ((clip hi xs.size xs.size : Nat) : Int) 1).filterMap (xs[·]?)) = cut lo hi xs.toList := by
  rw [sliceRange_one, pick_run]
  unfold cut
  simp
theorem slicePick_cut (items : Array Value) (lo hi : Option Int) : slicePick items lo hi none = (cut lo hi items.toList).toArray := by
  unfold slicePick
  rw [clip_bounds]
  dsimp only
  rw [pick_cut]

theorem strIdx (lo hi : Option Int) (n : Nat) : Builtin.Str.strSliceIndices lo hi 1 n = sliceRange ((clip lo 0 n : Nat) : Int) ((clip hi n n : Nat) : Int) 1 := by
  have := clip_bounds lo hi n
  unfold sliceBounds at this
  simp only [Prod.mk.injEq] at this
  unfold Builtin.Str.strSliceIndices
  dsimp only
  have h1 : ((1 : Int) > 0) = True := by simp
  simp only [h1, if_true]
  obtain ⟨e1, e2, _⟩ := this
  have g1 : ((Option.getD (none : Option Int) 1) > 0) = True := by simp
  simp only [g1, if_true] at e1 e2
  rw [← e1, ← e2]
  cases lo <;> cases hi <;> rfl
theorem str_cut (x : Str) (lo hi : Option Int) : Txt.slice x lo hi = ⟨(cut lo hi x.cps.toList).toArray⟩ := by
  unfold Txt.slice
  have e : (Builtin.Str.strSliceIndices lo hi 1 x.length).filterMap (x.cps[·]?) = cut lo hi x.cps.toList := by
    rw [strIdx]; exact pick_cut x.cps lo hi
  by_cases h : ((1 : Int) == 1 && (Builtin.Str.strSliceIndices lo hi 1 x.length).length == x.length) = true
  · rw [if_pos h]
    have h' : (Builtin.Str.strSliceIndices lo hi 1 x.length).length = x.length := by simpa using h
    rw [strIdx, sliceRange_one] at h'
    simp only [List.length_map, List.length_range] at h'
    have k1 := clip_le hi x.length x.length (Nat.le_refl _)
    have k2 : clip lo 0 x.length = 0 ∨ x.length = 0 := by omega
    have hc : cut lo hi x.cps.toList = x.cps.toList := by
      unfold cut
      have hl : x.cps.toList.length = x.length := by simp [Str.length]
      rw [hl]
      rw [List.take_of_length_le (by rw [List.length_drop, hl]; omega)]
      rcases k2 with k2 | k2
      · rw [k2]; rfl
      · have : x.cps.toList = [] := List.length_eq_zero_iff.mp (by rw [hl]; exact k2)
        rw [this]; simp
    rw [hc]
  · rw [if_neg h, e]

theorem cut_length {α : Type} (lo hi : Option Int) (l : List α) : (cut lo hi l).length ≤ l.length := by
  unfold cut
  rw [List.length_take, List.length_drop]
  omega
theorem cut_all {α : Type} (lo hi : Option Int) (l : List α) (h0 : clip lo 0 l.length = 0) (h1 : clip hi l.length l.length = l.length) : cut lo hi l = l := by
  unfold cut
  rw [h0, h1]
  simp

theorem subscripted_any (slice : Expr) (o i : Value) : ∃ ops, subscripted slice false o i = operate ops (getItem o i) := by
  unfold subscripted
  split
  · exact ⟨_, rfl⟩
  · rename_i h; cases h
  · exact ⟨_, rfl⟩

section
variable {G : Glo} {fs : List Env} {A : Around} {H : Hid} {S : Store} {s : Shared} {n : Nat}

theorem tail_ok {value slice : Expr} {o i : Value} {T id : String} {Q : Value → Shared → Prop} {E : Value → Shared → Prop} (hT : s.TypeIs o T)
    (hl : typeLookup (.type T) "__getitem__" = pure (some (.builtin id))) (hg : wpAny G.M A (getItem o i) Q E s) : wpAny G.M A (PyProof.Rows.subscriptTail value slice o i) Q E s := by
  obtain ⟨ops, e⟩ := subscripted_any slice o i
  exact PyProof.Rows.tail_any hT hl hg e

theorem seqIndex_some {k : Int} {m j : Nat} (h : seqIndex? k m = some j) : j < m ∧ ((0 ≤ k ∧ k.toNat = j ∧ k < m) ∨ (k < 0 ∧ -(m : Int) ≤ k ∧ (k + m).toNat = j)) := by
  unfold seqIndex? at h
  by_cases hk : k < 0
  · simp only [hk, if_true] at h
    by_cases q : (decide (0 ≤ k + (m : Int)) && decide (k + (m : Int) < (m : Int))) = true
    · rw [if_pos q] at h
      cases h
      simp only [Bool.and_eq_true, decide_eq_true_eq] at q
      constructor <;> omega
    · rw [if_neg q] at h; cases h
  · simp only [hk, if_false] at h
    by_cases q : (decide (0 ≤ k) && decide (k < (m : Int))) = true
    · rw [if_pos q] at h
      cases h
      simp only [Bool.and_eq_true, decide_eq_true_eq] at q
      constructor <;> omega
    · rw [if_neg q] at h; cases h

theorem item_list_ok (I : Inv G fs H S s) {value slice : Expr} {a : Addr} {vs : Array Value} {m : Nat} {ds : List D} {k : Int} {t : Tok} {d : D} (e : s.heap.get? a = some (lstO vs m)) (hz : vs.size ≤ sizeLine)
    (r : RdAll G.P H s.heap vs.toList ds) (hd : (seqIndex? k ds.length).bind (ds[·]?) = some d) :
    wpAny G.M A (PyProof.Rows.subscriptTail value slice (.ref a) (.int k t)) (PV G fs (RR G) H s.heap (ret d S)) (PE G fs H s.heap (ret d S : Out D)) s := by
  cases hj : seqIndex? k ds.length with
  | none => rw [hj] at hd; cases hd
  | some j =>
    rw [hj] at hd
    have hd' : ds[j]? = some d := hd
    obtain ⟨v, hv, rv⟩ := r.get hd'
    have l := r.length
    simp only [Array.length_toList] at l
    have hv' : vs[j]? = some v := by rw [← Array.getElem?_toList]; exact hv
    have key : ∀ tk, PV G fs (RR G) H s.heap (ret d S) v { s with toks := tk } := fun tk => ⟨d, S, H, rfl, Ext.refl, I.toks, rv⟩
    obtain ⟨h1, h2⟩ := seqIndex_some hj
    have h63 := line63 hz
    rcases h2 with ⟨h2, h3, h4⟩ | ⟨h2, h3, h4⟩
    · exact tail_ok (Rd.isList e).typeIs slot_list_getitem.lookup (wpAny_getItem_list (Rd.isList e) h2 (by omega) (by rw [h3]; exact hv') (key s.toks))
    · exact tail_ok (Rd.isList e).typeIs slot_list_getitem.lookup (wpAny_getItem_list_neg (Rd.isList e) h2 (by omega) (by omega) (by rw [l, h4]; exact hv') (key s.toks))

theorem seq_opt {k : Int} {l : Nat} {α : Type} {g : Nat → Option α} {c : α} (h : (seqIndex? k l).bind g = some c) : ∃ j, seqIndex? k l = some j ∧ g j = some c := by
  cases hj : seqIndex? k l with
  | none => rw [hj] at h; cases h
  | some j => rw [hj] at h; exact ⟨j, rfl, h⟩
theorem item_tup_ok (I : Inv G fs H S s) {value slice : Expr} {x : Addr} {vs : Array Value} {m : Nat} {ds : List D} {k : Int} {t : Tok} (a3 : s.heap.get? x = some (tupO vs m)) (a4 : vs.size ≤ sizeLine) (a5 : RdAll G.P H s.heap vs.toList ds) :
    Wp G fs A (RR G) H S s (PyProof.Rows.subscriptTail value slice (.ref x) (.int k t)) (itemL ds k) := by
  intro hne
  unfold itemL at hne ⊢
  cases hd : (seqIndex? k ds.length).bind (ds[·]?) with
  | none => rw [hd] at hne; exact absurd rfl hne
  | some d =>
    obtain ⟨j, hj, hd⟩ := seq_opt hd
    obtain ⟨w, hw, rw'⟩ := a5.get hd
    have l := a5.length
    rw [Array.length_toList] at l
    obtain ⟨h1, h2⟩ := seqIndex_some hj
    have h63 := line63 a4
    exact tail_ok (PyProof.Rows.IsTup.typeIs (Rd.isTup a3)) F.slot_tuple_getitem.lookup (PyProof.Rows.getItem_tuple (Rd.isTup a3) (by omega) (by omega) (by rw [l]; exact hj) (by rw [← Array.getElem?_toList]; exact hw) ⟨d, S, H, rfl, Ext.refl, I, rw'⟩)
theorem item_str_ok (I : Inv G fs H S s) {value slice : Expr} {x : Str} {k : Int} {t t' : Tok} (hx : PyData.strOk x = true) (lx : x.length ≤ sizeLine) :
    Wp G fs A (RR G) H S s (PyProof.Rows.subscriptTail value slice (.str x t) (.int k t')) (itemS x k) := by
  intro hne
  unfold itemS at hne ⊢
  cases hd : (seqIndex? k x.length).bind (x.cps[·]?) with
  | none => rw [hd] at hne; exact absurd rfl hne
  | some c =>
    have h63 := line63 lx
    obtain ⟨j, hj, hg⟩ := seq_opt hd
    obtain ⟨h1, h2⟩ := seqIndex_some hj
    have hr : (decide (k < -(2 ^ 63 : Int)) || decide (k ≥ 2 ^ 63)) = false := by
      rw [decide_eq_false (by omega), decide_eq_false (by omega)]; rfl
    have hc : c < 0x110000 := of_decide_eq_true (Array.all_eq_true'.mp hx c (Array.mem_of_getElem? hg))
    refine tail_ok (typeIs_str _ _ _) F.slot_str_getitem.lookup (P.getItem_str hr hd ⟨_, S, H, rfl, Ext.refl, I.toks, .str _ _ ?_ ?_⟩)
    · unfold PyData.strOk; simp [hc]
    · show 1 ≤ sizeLine; decide
theorem item_dict_ok (I : Inv G fs H S s) {value slice : Expr} {v : Value} {kvs : List (Str × D)} {x : Str} {t : Tok} (r : Rd G.P H s.heap v (.dict kvs)) : Wp G fs A (RR G) H S s (PyProof.Rows.subscriptTail value slice v (.str x t)) (optM (kvs.lookup x)) := by
  intro hne
  cases r with | dict a1 a2 a3 a4 a5 a6 a7 =>
  cases hk : kvs.lookup x with
  | none => rw [hk] at hne; exact absurd rfl hne
  | some d =>
    obtain ⟨i1, _⟩ := ents_find x a6
    obtain ⟨w, hw, rw'⟩ := i1 d hk
    have hm := dict_map a3 a6
    exact tail_ok hm.typeIs slot_dict_getitem.lookup (wpAny_getItem_of (knd := strKind G.prog G.w) (strKind_is G.prog G.w x t) hm (by rw [findBy_list]; exact hw) ⟨d, S, H, rfl, Ext.refl, I.toks, rw'⟩)
theorem onStr_ok {m : Sem Value} {v : Value} {a : D} {k : Str → EM D} {z : EM D} (q : Rd G.P H s.heap v a) (h : ∀ x t, v = .str x t → PyData.strOk x = true → x.length ≤ sizeLine → Wp G fs A (RR G) H S s m (k x)) (hz : Wp G fs A (RR G) H S s m z) : Wp G fs A (RR G) H S s m (onStr a k z) := by
  unfold onStr
  split
  · obtain ⟨t, e, h1, h2⟩ := q.str_inv
    exact h _ t e h1 h2
  · exact hz
theorem onList_ok (I : Inv G fs H S s) {m : Sem Value} {v : Value} {a : D} {k : List D → EM D} (q : Rd G.P H s.heap v a) (h : ∀ x vs n ds, v = .ref x → s.heap.get? x = some (lstO vs n) → vs.size ≤ sizeLine → RdAll G.P H s.heap vs.toList ds → Wp G fs A (RR G) H S s m (k ds)) : Wp G fs A (RR G) H S s m (onList a k) := by
  intro hne
  unfold onList at hne ⊢
  cases hl : listOf S a with
  | none => rw [hl] at hne; exact absurd rfl hne
  | some ds =>
    rw [hl] at hne
    obtain ⟨x, vs, n, e1, e2, e3, e4⟩ := listOf_ok I q hl
    exact h x vs n ds e1 e2 e3 e4 hne
theorem onTup_ok {m : Sem Value} {v : Value} {a : D} {k : List D → EM D} {z : EM D} (q : Rd G.P H s.heap v a) (h : ∀ x vs n ds, v = .ref x → s.heap.get? x = some (tupO vs n) → vs.size ≤ sizeLine → RdAll G.P H s.heap vs.toList ds → Rd G.P H s.heap v (.tuple ds) → Wp G fs A (RR G) H S s m (k ds)) (hz : Wp G fs A (RR G) H S s m z) : Wp G fs A (RR G) H S s m (onTup a k z) := by
  unfold onTup
  split
  · have q0 := q
    cases q with | tuple a1 a2 a3 a4 a5 => exact h _ _ _ _ rfl a3 a4 a5 q0
  · exact hz
theorem item_ok (I : Inv G fs H S s) {value slice : Expr} {v u : Value} {a i : D} (r : Rd G.P H s.heap v a) (q : Rd G.P H s.heap u i) :
    Wp G fs A (RR G) H S s (PyProof.Rows.subscriptTail value slice v u) (itemM a i) := by
  cases i with
  | int k =>
    obtain ⟨t, rfl⟩ := q.int_inv
    refine onTup_ok r (fun x vs n ds e1 e2 e3 e4 _ => by rw [e1]; exact item_tup_ok I e2 e3 e4) (onStr_ok r (fun x t' e h1 h2 => by rw [e]; exact item_str_ok I h1 h2) (onList_ok I r fun x vs n ds e1 e2 e3 e4 hne => ?_))
    rw [e1]
    cases hd : (seqIndex? k ds.length).bind (ds[·]?) with
    | none => unfold itemL at hne; rw [hd] at hne; exact absurd rfl hne
    | some d => unfold itemL; rw [hd]; exact item_list_ok I e2 e3 e4 hd
  | str x =>
    obtain ⟨t, rfl, _, _⟩ := q.str_inv
    show Wp G fs A (RR G) H S s _ (itemD a x)
    unfold itemD
    split
    · exact item_dict_ok I r
    · exact Wp.stk
  | _ => exact Wp.stk

theorem adjust_clip (lo hi : Option Int) (m : Nat) : Builtin.Slice.sliceAdjust lo hi 1 (m : Int) = (((clip lo 0 m : Nat) : Int), ((clip hi m m : Nat) : Int)) := by
  unfold Builtin.Slice.sliceAdjust clip
  have h1 : ((1 : Int) < 0) = False := by simp
  cases lo <;> cases hi <;> simp only [h1, if_false, Prod.mk.injEq, and_true, true_and] <;> (try constructor) <;> (try split) <;> omega
theorem places_clip (a b : Nat) : Builtin.Slice.slicePlaces (a : Int) (b : Int) 1 = b - a := by
  unfold Builtin.Slice.slicePlaces
  have h1 : ((1 : Int) > 0) = True := by simp
  simp only [h1, if_true, Int.ediv_one]
  split <;> omega

theorem slicePart_any {v : Value} {k : Option Int} {Q : Option Int → Shared → Prop} {E : Value → Shared → Prop} (hv : IsPart v k) (h : Q k s) : wpAny G.M A (Builtin.Slice.slicePartIndex v) Q E s := by
  cases hv with
  | none => exact PyProof.Rows.slicePart_none h
  | int i t => exact PyProof.Rows.slicePart_int h

theorem sliceApplied_any {sl : Addr} {vl vu : Value} {lo hi : Option Int} {m : Nat} {Q : Int × Int × Nat → Shared → Prop} {E : Value → Shared → Prop} (hs : s.heap.IsSliceOf sl vl vu .none) (pl : IsPart vl lo) (pu : IsPart vu hi)
    (h : Q (((clip lo 0 m : Nat) : Int), 1, clip hi m m - clip lo 0 m) s) : wpAny G.M A (Builtin.Slice.sliceApplied (.ref sl) (pure (m : Int))) Q E s := by
  obtain ⟨os, hos, hcs, hds⟩ := id hs
  unfold Builtin.Slice.sliceApplied Builtin.Slice.sliceFields
  refine wpAny_bind (wpAny_bind (wpAny_field hos hds (x := vl) rfl (wpAny_bind (wpAny_field hos hds (x := vu) rfl (wpAny_bind (wpAny_field hos hds (x := .none) rfl (wpAny_pure ?_)))))))
  refine wpAny_bind (PyProof.Rows.slicePart_none ?_)
  show wpAny _ _ (if ((1 : Int) == 0) = true then _ else _) _ _ s
  rw [if_neg (by decide)]
  refine wpAny_bind (slicePart_any pl (wpAny_bind (slicePart_any pu (wpAny_bind (wpAny_pure ?_)))))
  show wpAny _ _ (match Builtin.Slice.sliceAdjust lo hi 1 (m : Int) with | (lo, hi) => pure (lo, (1 : Int), Builtin.Slice.slicePlaces lo hi 1)) _ _ s
  rw [adjust_clip]
  show wpAny _ _ (pure (((clip lo 0 m : Nat) : Int), (1 : Int), Builtin.Slice.slicePlaces ((clip lo 0 m : Nat) : Int) ((clip hi m m : Nat) : Int) 1)) _ _ s
  rw [places_clip]
  exact wpAny_pure h

theorem getItem_tuple_slice {t sl : Addr} {items : Array Value} {k : Nat} {vl vu : Value} {lo hi : Option Int} {Q : Value → Shared → Prop} {E : Value → Shared → Prop} (he : s.heap.get? t = some (tupO items k))
    (hs : s.heap.IsSliceOf sl vl vu .none) (pl : IsPart vl lo) (pu : IsPart vu hi) (hsz : items.size ≤ sizeLine)
    (h0 : cut lo hi items.toList = items.toList → Q (.ref t) s)
    (h1 : Q (.ref s.heap.objs.size) { s with heap := s.heap.push (tupO (cut lo hi items.toList).toArray 0) }) : wpAny G.M A (getItem (.ref t) (.ref sl)) Q E s := by
  have ht := Rd.isTup he
  have hdrop : sizeOk (.seq (cut lo hi items.toList).toArray) := by
    show (cut lo hi items.toList).toArray.size ≤ sizeLine
    have := cut_length lo hi items.toList
    simp only [List.size_toArray, Array.length_toList] at this ⊢
    omega
  obtain ⟨os, hos, hcs, hds⟩ := id hs
  have hTs : s.TypeIs (.ref sl) "slice" := ⟨os, hos, hcs⟩
  unfold getItem
  try with_reducible refine wpAny_holding ?_
  first | refine wpAny_bind (wpAny_pure ?_) | skip
  refine wpAny_bind (wpAny_sequenceKey ht.typeIs (by decide) ?_)
  refine wpAny_bind (wpAny_callSpecial?_slot (name := Str.ofString "__getitem__") ht.typeIs PyProof.Rows.slot_tuple_getitem
    (wpAny_call_entry PyProof.Rows.slot_tuple_getitem ht.typeIs PyProof.Rows.entry_tuple_getitem ?_ (PyProof.Rows.args_tuple_getitem _ _)))
  show wpAny _ _ (Builtin.Tuple.tupleItemsOf (.ref t) >>= _) _ _ s
  refine wpAny_bind (PyProof.Rows.tupleItemsOf_ ht ?_)
  refine wpAny_bind (wpAny_typeOf hTs ?_)
  rw [if_pos (by decide)]
  refine wpAny_bind (sliceApplied_any hs pl pu ?_)
  have hpick : ((List.range (clip hi items.size items.size - clip lo 0 items.size)).filterMap fun (k : Nat) => items[((((clip lo 0 items.size : Nat) : Int) + (k : Int) * 1)).toNat]?) = cut lo hi items.toList := by
    have e : (fun (k : Nat) => items[((((clip lo 0 items.size : Nat) : Int) + (k : Int) * 1)).toNat]?) = fun k => items[clip lo 0 items.size + k]? := by
      funext k
      have : ((((clip lo 0 items.size : Nat) : Int) + (k : Int) * 1)).toNat = clip lo 0 items.size + k := by omega
      rw [this]
    rw [e]
    have := pick_run items (clip lo 0 items.size) (clip hi items.size items.size - clip lo 0 items.size)
    rw [List.filterMap_map] at this
    have e2 : ((fun x => items[x]?) ∘ fun x => clip lo 0 items.size + x) = fun k => items[clip lo 0 items.size + k]? := rfl
    rw [e2] at this
    rw [this]
    unfold cut
    simp
  dsimp only
  rw [hpick]
  by_cases hw : (((clip lo 0 items.size : Nat) : Int) == 0 && (1 : Int) == 1 && (clip hi items.size items.size - clip lo 0 items.size) == items.size) = true
  · rw [if_pos hw]
    refine wpAny_bind ?_
    unfold Builtin.Tuple.tupleIsExact
    refine wpAny_bind (wpAny_typeOf ht.typeIs (wpAny_pure ?_))
    rw [if_pos (by decide)]
    refine wpAny_bind (wpAny_rule (wpAny_pure ⟨_, rfl, wpAny_pure (h0 ?_)⟩))
    simp only [Bool.and_eq_true, beq_iff_eq] at hw
    obtain ⟨⟨w1, _⟩, w2⟩ := hw
    have k1 := clip_le hi items.size items.size (Nat.le_refl _)
    have hz : items.toList.length = items.size := by simp
    refine cut_all _ _ _ (by rw [hz]; omega) (by rw [hz]; omega)
  · rw [if_neg hw]
    exact wpAny_bind (m := Builtin.Tuple.tupleExact _) (wpAny_newObj_type (wpAny_pure ⟨_, rfl, wpAny_pure h1⟩) hdrop)

noncomputable abbrev slcO (l u : Value) : Obj := { cls := .type "slice", dict := none, data := .fields #[l, u, .none], slots := #[] }

theorem partOf_ok {P : Params} {h : Heap} {v : Value} {d : D} {k : Option Int} (r : Rd P H h v d) (e : partOf d = some k) : IsPart v k := by
  cases r with
  | none => cases e; exact .none
  | int i t => cases e; exact .int i t
  | _ => cases e

theorem part_val {v : Value} {k : Option Int} (h : IsPart v k) : ∃ l : Option (Int × Tok), v = partValue l ∧ l.map (·.1) = k := by
  cases h with
  | none => exact ⟨none, rfl, rfl⟩
  | int i t => exact ⟨some (i, t), rfl, rfl⟩
theorem cut_rd {P : Params} {h : Heap} {vs : List Value} {ds : List D} (r : RdAll P H h vs ds) (lo hi : Option Int) : RdAll P H h (cut lo hi vs) (cut lo hi ds) := by
  unfold cut
  rw [r.length]
  exact (r.drop _).take _

theorem strOk_cut {x : Str} (hx : PyData.strOk x = true) (lo hi : Option Int) : PyData.strOk ⟨(cut lo hi x.cps.toList).toArray⟩ = true := by
  unfold PyData.strOk at *
  simp only [List.all_toArray, List.all_eq_true]
  intro c hc
  have hm : c ∈ x.cps.toList := by
    unfold cut at hc
    exact List.mem_of_mem_drop (List.mem_of_mem_take hc)
  exact Array.all_eq_true'.mp hx c (Array.mem_toList_iff.mp hm)

/-- a slice, its object just made -/
theorem slice_ok (I : Inv G fs H S s) {value slice : Expr} {v vl vu : Value} {a dl du : D} (r : Rd G.P H s.heap v a) (rl : Rd G.P H s.heap vl dl) (ru : Rd G.P H s.heap vu du) (C : Cfg) (pos : Pos) (hne : sliceM C pos a dl du S ≠ .stuck) :
    wpAny G.M A (PyProof.Rows.subscriptTail value slice v (.ref s.heap.objs.size)) (PV G fs (RR G) H s.heap (sliceM C pos a dl du S)) (PE G fs H s.heap (sliceM C pos a dl du S)) { s with heap := s.heap.push (slcO vl vu) } := by
  have x : Ext [] H s.heap H (s.heap.push (slcO vl vu)) := Ext.push _
  have J : Inv G fs H S { s with heap := s.heap.push (slcO vl vu) } := I.push'
  have hsl : (s.heap.push (slcO vl vu)).IsSliceOf s.heap.objs.size vl vu .none := ⟨_, Heap.get?_push_size _ rfl, rfl, rfl⟩
  unfold sliceM at hne ⊢
  cases hl : partOf dl with
  | none => rw [hl] at hne; exact absurd rfl hne
  | some lo =>
    cases hu : partOf du with
    | none => rw [hl, hu] at hne; exact absurd rfl hne
    | some hi =>
      rw [hl, hu] at hne
      have pl := partOf_ok rl hl
      have pu := partOf_ok ru hu
      dsimp only at hne ⊢
      have viaList : ∀ {ds : List D}, listOf S a = some ds → wpAny G.M A (PyProof.Rows.subscriptTail value slice v (.ref s.heap.objs.size)) (PV G fs (RR G) H s.heap (mkList C pos (cut lo hi ds) S)) (PE G fs H s.heap (mkList C pos (cut lo hi ds) S)) { s with heap := s.heap.push (slcO vl vu) } := by
        intro ds hd
        obtain ⟨b, vs, m, rfl, e2, e3, e4⟩ := listOf_ok I r hd
        have e2' : (s.heap.push (slcO vl vu)).get? b = some (lstO vs m) := Heap.get?_push_of_some _ e2
        refine tail_ok ⟨_, e2', rfl⟩ slot_list_getitem.lookup (wpAny_getItem_list_slice (Rd.isList e2') hsl pl pu .none (by simp) ?_ e3)
        rw [slicePick_cut]
        have := newList_ok (tk := s.toks) J (cut_rd (e4.step x) lo hi) (Nat.le_trans (cut_length lo hi vs.toList) (by simpa using e3)) C pos
        exact this.trans x
      cases r with
      | tuple a1 a2 a3 a4 a5 =>
        rename_i b vs m ds
        have a3' : (s.heap.push (slcO vl vu)).get? b = some (tupO vs m) := Heap.get?_push_of_some _ a3
        refine tail_ok ⟨_, a3', rfl⟩ F.slot_tuple_getitem.lookup (getItem_tuple_slice a3' hsl pl pu a4 (fun e => ?_) ?_)
        · have hcd : cut lo hi ds = ds := by
            have l := a5.length
            have hl' := congrArg List.length e
            unfold cut at hl' ⊢
            rw [List.length_take, List.length_drop, l] at hl'
            have k1 := clip_le hi ds.length ds.length (Nat.le_refl _)
            rcases Nat.eq_zero_or_pos ds.length with h0 | h0
            · rw [List.length_eq_zero_iff.mp h0]; simp
            · have : clip lo 0 ds.length = 0 := by omega
              have k2 : clip hi ds.length ds.length = ds.length := by omega
              rw [this, k2]; simp
          show PV G fs (RR G) H s.heap (Out.ok (D.tuple (cut lo hi ds)) S) _ _
          rw [hcd]
          exact ⟨_, S, H, rfl, x, J, (Rd.tuple a1 a2 a3 a4 a5).step x⟩
        · have := newTuple_ok (tk := s.toks) J (cut_rd (a5.step x) lo hi) (Nat.le_trans (cut_length lo hi vs.toList) (by simpa using a4))
          exact this.trans x
      | str y t hy ly =>
        obtain ⟨l, rfl, hl'⟩ := part_val pl
        obtain ⟨u, rfl, hu'⟩ := part_val pu
        refine tail_ok (typeIs_str _ _ _) F.slot_str_getitem.lookup (wpAny_getItem_str_slice (l := l) (u := u) (st := none) ⟨_, Heap.get?_push_size _ rfl, rfl, rfl⟩ rfl (post_val_or_str ?_))
        have e : (if (((Option.map (·.1) (none : Option (Int × Tok))).getD 1 == 1) && (slicePicked y l u none).length == y.length) = true then y else ⟨((slicePicked y l u none).filterMap (y.cps[·]?)).toArray⟩) = (⟨(cut lo hi y.cps.toList).toArray⟩ : Str) := by
          rw [← str_cut, ← hl', ← hu']
          rfl
        rw [e]
        refine ⟨?_, fun t' k => ⟨_, S, H, rfl, x, J.toks, .str _ _ (strOk_cut hy lo hi) ?_⟩⟩ <;>
        · show (cut lo hi y.cps.toList).toArray.size ≤ sizeLine
          have := cut_length lo hi y.cps.toList
          simp only [List.size_toArray, Array.length_toList] at this ⊢
          exact Nat.le_trans this ly
      | list a1 a2 a3 a4 a5 => exact viaList rfl
      | loc q =>
        dsimp only at hne ⊢
        split at hne
        · rename_i ds hd; exact viaList hd
        · exact absurd rfl hne
      | _ => exact absurd rfl hne
end
end Mine
end

section
set_option maxRecDepth 100000
namespace Mine
open PySem

section
variable {G : Glo} {fs : List Env} {A : Around} {H : Hid} {S : Store} {s : Shared} {n : Nat}

/-- what the pairs of a written display come to -/
noncomputable def LitVs : List (Value × Value) → List (Str × D) → Prop
  | [], [] => True
  | p :: r, q :: l => (∃ t, p.1 = .str q.1 t) ∧ (PyData.strOk q.1 = true ∧ q.1.length ≤ sizeLine) ∧ (∀ P H h, Rd P H h p.2 q.2) ∧ LitVs r l
  | _, _ => False
theorem strC_inv {e : Expr} {x : Str} (h : strC e = some x) : ∃ k p, e = .Constant (.str x) k p ∧ PyData.strOk x = true ∧ x.length ≤ sizeLine := by
  unfold strC at h
  split at h
  · split at h
    · rename_i hc
      cases h
      rw [Bool.and_eq_true, decide_eq_true_eq] at hc
      exact ⟨_, _, rfl, hc⟩
    · cases h
  · cases h
theorem litC_walk {env : Env} {e : Expr} {d : D} (h : litC e = some d) {s : Shared} {Q : Value → Shared → Prop} {E : Value → Shared → Prop} (hQ : ∀ v tk, (∀ P H h, Rd P H h v d) → Q v { s with toks := tk }) : wpAny G.M A (eval e env) Q E s := by
  unfold litC at h
  split at h
  · cases h; exact wpAny_Constant_int (hQ _ _ fun _ _ _ => .int _ _)
  · obtain ⟨x, hx, rfl⟩ := Option.map_eq_some_iff.mp h
    obtain ⟨k, p, rfl, a⟩ := strC_inv hx
    exact wpAny_Constant_str (hQ _ _ fun _ _ _ => .str _ _ a.1 a.2)
theorem dictLit_cons {k : Option Expr} {ks : List (Option Expr)} {v : Expr} {vs : List Expr} {l : List (Str × D)} (h : dictLit (k :: ks) (v :: vs) = some l) :
    ∃ e x y r, k = some e ∧ strC e = some x ∧ litC v = some y ∧ dictLit ks vs = some r ∧ l = (x, y) :: r := by
  cases k with
  | none => cases h
  | some e =>
    have h' : ((strC e).bind fun x => (litC v).bind fun y => (dictLit ks vs).map ((x, y) :: ·)) = some l := h
    cases hx : strC e with
    | none => rw [hx] at h'; cases h'
    | some x =>
      cases hy : litC v with
      | none => rw [hx, hy] at h'; cases h'
      | some y =>
        cases hr : dictLit ks vs with
        | none => rw [hx, hy, hr] at h'; cases h'
        | some r => rw [hx, hy, hr] at h'; cases h'; exact ⟨e, x, y, r, rfl, hx, rfl, rfl, rfl⟩
theorem lit_pairs {env : Env} {pos : Pos} (keys : List (Option Expr)) : ∀ {values : List Expr} {l : List (Str × D)} {s : Shared} {Q : List (Value × Value) → Shared → Prop} {E : Value → Shared → Prop}, dictLit keys values = some l →
    (∀ vs tk, LitVs vs l → Q vs { s with toks := tk }) → wpAny G.M A (evalPairs (pairTrees keys values env pos)) Q E s := by
  induction keys with
  | nil =>
    intro values l s Q E h hQ
    cases values with
    | nil => cases h; exact pairTrees_nil_walk (hQ [] s.toks trivial)
    | cons v vs => cases h
  | cons k ks ih =>
    intro values l s Q E h hQ
    cases values with
    | nil => cases k <;> cases h
    | cons v vs =>
      obtain ⟨e, x, y, r, rfl, hx, hy, hr, rfl⟩ := dictLit_cons h
      obtain ⟨k1, p1, rfl, a1⟩ := strC_inv hx
      exact pairTrees_cons_walk (wpAny_Constant_str (litC_walk hy fun v tk hv => ih hr fun vs tk q => hQ _ tk ⟨⟨_, rfl⟩, a1, hv, q⟩))
theorem dictLit_len (keys : List (Option Expr)) : ∀ {values : List Expr} {l : List (Str × D)}, dictLit keys values = some l → keys.all (·.isSome) = true ∧ keys.length = values.length ∧ keys.length = l.length := by
  induction keys with
  | nil =>
    intro values l h
    cases values with
    | nil => cases h; exact ⟨rfl, rfl, rfl⟩
    | cons v vs => cases h
  | cons k ks ih =>
    intro values l h
    cases values with
    | nil => cases k <;> cases h
    | cons v vs =>
      obtain ⟨e, x, y, r, rfl, hx, hy, hr, rfl⟩ := dictLit_cons h
      obtain ⟨i1, i2, i3⟩ := ih hr
      exact ⟨i1, congrArg (· + 1) i2, congrArg (· + 1) i3⟩
theorem lit_carries (vs : List (Value × Value)) : ∀ {l : List (Str × D)}, LitVs vs l → Carries (strKind G.prog G.w) vs (strPairs vs) ∧ (strPairs vs).map (·.1) = l.map (·.1) := by
  induction vs with
  | nil =>
    intro l h
    cases l with
    | nil => exact ⟨trivial, rfl⟩
    | cons _ _ => exact h.elim
  | cons p vs ih =>
    intro l h
    cases l with
    | nil => exact h.elim
    | cons q l =>
      obtain ⟨k, v⟩ := p
      obtain ⟨⟨t, rfl⟩, _, _, h5⟩ := h
      obtain ⟨i1, i2⟩ := ih h5
      refine ⟨⟨strKind_is G.prog G.w q.1 t, rfl, i1⟩, ?_⟩
      show q.1 :: (strPairs vs).map (·.1) = _
      rw [i2]; rfl
theorem merged_new (l : List (Str × Value)) : ∀ acc : List (Str × Value), ((acc ++ l).map (·.1)).Nodup → merged acc l = acc ++ l := by
  induction l with
  | nil => intro acc _; rw [List.append_nil]; rfl
  | cons p l ih =>
    intro acc hn
    have hs : stored acc p.1 p.2 = acc ++ [p] := by
      unfold stored
      rw [if_neg]
      intro h
      obtain ⟨q, hq, e⟩ := List.any_eq_true.mp h
      rw [List.map_append, List.nodup_append] at hn
      exact hn.2.2 q.1 (List.mem_map_of_mem hq) p.1 (List.mem_cons_self ..) (of_decide_eq_true e)
    show merged (stored acc p.1 p.2) l = _
    rw [hs, ih]
    · rw [List.append_assoc]; rfl
    · rw [List.append_assoc]; exact hn
theorem lit_ents {h : Heap} (vs : List (Value × Value)) : ∀ {l : List (Str × D)} {es : List DictEntry}, LitVs vs l → Pairs (strKind G.prog G.w) es (strPairs vs) → (∀ e ∈ es, ∃ k, (strKind G.prog G.w).is k e.key = true ∧ e.hash = (strKind G.prog G.w).hash k) →
    RdEnts G.P H h es l := by
  induction vs with
  | nil =>
    intro l es hl hp hk
    cases l with
    | nil => cases hp; exact .nil
    | cons _ _ => exact hl.elim
  | cons p vs ih =>
    intro l es hl hp hk
    cases l with
    | nil => exact hl.elim
    | cons q l =>
      obtain ⟨k, v⟩ := p
      obtain ⟨⟨t, rfl⟩, a1, hv, h5⟩ := hl
      have hp' : Pairs (strKind G.prog G.w) es ((q.1, v) :: strPairs vs) := hp
      cases hp' with
      | @cons e _ es _ b1 b2 b3 =>
        obtain ⟨t2, hk2⟩ := Value.isStrOf_shape b1
        obtain ⟨k2, c1, c2⟩ := hk e (List.mem_cons_self ..)
        have hkk : k2 = q.1 := Value.isStrOf_inj e.key k2 q.1 c1 b1
        rw [hkk] at c2
        exact .cons hk2 a1.1 a1.2 c2 (by rw [b2]; exact hv _ _ _) (ih h5 b3 fun e he => hk e (List.mem_cons_of_mem _ he))

theorem pairs_len {es : List DictEntry} {kv : List (Str × Value)} (h : Pairs (strKind G.prog G.w) es kv) : es.length = kv.length := by
  induction h with
  | nil => rfl
  | cons _ _ _ ih => exact congrArg (· + 1) ih
theorem dict_ok (K : G.Ok) (I : Inv G fs H S s) {env : Env} {keys : List (Option Expr)} {values : List Expr} {pos : Pos} {own : Bool} : Wp G fs A (RR G) H S s (eval (.Dict keys values pos) env) (dictM own keys values) := by
  intro hne
  unfold dictM at hne ⊢
  cases hl : dictLit keys values with
  | none => rw [hl] at hne; exact absurd rfl hne
  | some l =>
    rw [hl] at hne
    by_cases hc : (!l.isEmpty && decide (l.length ≤ 15) && decide (l.map (·.1)).Nodup) = true
    · dsimp only
      rw [if_pos hc]
      rw [Bool.and_eq_true, Bool.and_eq_true, decide_eq_true_eq, decide_eq_true_eq] at hc
      obtain ⟨⟨c1, c2⟩, c3⟩ := hc
      obtain ⟨d1, d2, d3⟩ := dictLit_len keys hl
      refine wpAny_Dict_walk (knd := strKind G.prog G.w) d1 d2 (fun e => ?_) (by rw [d3]; exact c2) (lit_pairs keys hl fun vs tk hvs => ?_)
      · rw [e] at d3
        rw [List.length_eq_zero_iff.mp d3.symm] at c1; cases c1
      · obtain ⟨e1, e2⟩ := lit_carries (G := G) vs hvs
        refine ⟨strPairs vs, e1, ⟨_, #[], 0, Heap.get?_push_size _ rfl, ⟨rfl, rfl, rfl⟩, rfl, fun e he => by simp at he, .nil, List.nodup_nil⟩, fun h' hD hs => ?_⟩
        rw [merged_new _ [] (by rw [List.nil_append, e2]; exact c3), List.nil_append] at hD
        obtain ⟨o, es, ep, ho, hex, hd, hk, hp, _⟩ := hD
        have hes : es.size = l.length := by
          have := pairs_len hp
          have h2 := congrArg List.length e2
          rw [List.length_map, List.length_map] at h2
          rw [← Array.length_toList, this, h2]
        have hob : o = dicO es ep := by
          obtain ⟨x1, x2, x3⟩ := hex
          obtain ⟨oc, od, oda, os⟩ := o
          cases x1; cases x2; cases x3; cases hd; rfl
        rw [hob] at ho
        have keep : ∀ b o, s.heap.get? b = some o → h'.get? b = some o := fun b o e => (hs.2 b (Nat.ne_of_lt (Heap.lt_size e))).trans (Heap.get?_push_of_some _ e)
        have hsys : s.heap.objs.size ≠ sysModules := by
          obtain ⟨o', _, _, e, _⟩ := K.g.keeps I.stays
          have := Heap.lt_size e
          intro q
          rw [q] at this
          exact absurd this (by decide)
        have hz : es.size ≤ sizeLine := by rw [hes]; exact Nat.le_trans c2 (by decide)
        unfold mkD
        cases own with
        | true => exact newStore I keep (Nat.le_refl _) ⟨_, ho⟩ fun _ _ => ⟨es, ep, ho, hz, c3, lit_ents vs hvs hp fun e he => hk e (Array.mem_toList_iff.mp he), hsys⟩
        | false =>
          refine ⟨_, S, H, rfl, Ext.of_keeps keep ?_, I.grow keep, ?_⟩
          · have : h'.objs.size = (s.heap.push { cls := .type "dict", data := .dict #[] }).objs.size := hs.1
            rw [this]; exact size_push_le _ _
          · exact .dict I.freshS I.freshF ho hz c3 (lit_ents vs hvs hp fun e he => hk e (Array.mem_toList_iff.mp he)) hsys
    · dsimp only at hne
      rw [if_neg hc] at hne; exact absurd rfl hne
end
end Mine
end

section
namespace Mine
open PySem

theorem size_upd (h : Heap) (a : Addr) (f : Obj → Obj) : (h.update a f).objs.size = h.objs.size := Heap.size_after_update ..
theorem runs_size {M : Model} {Γ : Ctx} {p : Pos} {t : Sem Fin} {fs : List Frame} {s s' : Shared} {e : End} (h : Runs M Γ p t fs s e s') : s.heap.objs.size ≤ s'.heap.objs.size := by
  induction h <;> (try simp only [Shared.setGen, size_upd, Heap.size_push] at *) <;> omega
theorem returns_size {M : Model} {Γ : Ctx} {p : Pos} {s s' : Shared} {r : Result} (h : Returns M Γ p s r s') : s.heap.objs.size ≤ s'.heap.objs.size := runs_size h
theorem wakes_size {M : Model} {Γ : Ctx} {p : Pos} {g : Nat} {r : Resume} {s s' : Shared} {res : GenResult} (h : Wakes M Γ p g r s res s') : s.heap.objs.size ≤ s'.heap.objs.size := by
  unfold Wakes at h
  split at h
  · exact h.elim
  · split at h
    · obtain ⟨e₁, s₁, hr, _, _, rfl⟩ := h; exact (runs_size hr : (s.setGen g .running).heap.objs.size ≤ s₁.heap.objs.size)
    · rw [h.2]; exact Nat.le_refl _
    · rw [h.2]; exact Nat.le_refl _
  · obtain ⟨e₁, s₁, hr, _, _, rfl⟩ := h; exact (runs_size hr : (s.setGen g .running).heap.objs.size ≤ s₁.heap.objs.size)
  · rw [h.2]; exact Nat.le_refl _
  · rw [h.2]; exact Nat.le_refl _

theorem wp_size {α : Type} (M : Model) (Γ : Ctx) (n : Nat) (t : Sem α) : ∀ (Q : α → Pos → Shared → Prop) (E : Value → Pos → Shared → Prop) (p : Pos) (s : Shared), n ≤ s.heap.objs.size → Sem.wp M Γ t Q E p s →
    Sem.wp M Γ t (fun a p' s' => n ≤ s'.heap.objs.size ∧ Q a p' s') (fun e p' s' => n ≤ s'.heap.objs.size ∧ E e p' s') p s := by
  induction t with
  | pure a => intro Q E p s hn h; exact ⟨hn, h⟩
  | raise e => intro Q E p s hn h; exact ⟨hn, h⟩
  | unsupported _ => intro Q E p s _ h; exact h
  | finish _ => intro Q E p s _ h; exact h
  | rule _ k ih => intro Q E p s hn h; exact ih () Q E p s hn h
  | «at» p' k ih => intro Q E p s hn h; exact ih () Q E p' s hn h
  | load a _ k ih => intro Q E p s hn h; obtain ⟨o, ho, h⟩ := h; exact ⟨o, ho, ih o Q E p s hn h⟩
  | update a _ f k ih => intro Q E p s hn h; exact ⟨h.1, ih () Q E p _ (by show n ≤ (s.heap.update a f).objs.size; rw [size_upd]; exact hn) h.2⟩
  | loadIfAlive a k ih => intro Q E p s hn h; exact ih _ Q E p s hn h
  | point _ k ih => intro Q E p s hn h; exact ih () Q E p s hn h
  | register _ _ => intro Q E p s _ h; exact h
  | alloc o k ih => intro Q E p s hn h; exact ih _ Q E p _ (by show n ≤ (s.heap.push o).objs.size; rw [Heap.size_push]; exact Nat.le_succ_of_le hn) h
  | fresh k ih => intro Q E p s hn h; exact ih _ Q E p _ hn h
  | ask k ih => intro Q E p s hn h; exact ih _ Q E p s hn h
  | choose src m k ih => intro Q E p s hn h; exact ⟨h.1, ih _ Q E p _ hn h.2⟩
  | os q _ k ih => intro Q E p s hn h; exact ih _ Q E p _ hn h
  | call c hd _ _ k ih => intro Q E p s hn h; obtain ⟨r, s', hr, h⟩ := h; exact ⟨r, s', hr, ih r Q E p s' (Nat.le_trans hn (returns_size hr)) h⟩
  | handled own k ih => intro Q E p s hn h; exact ih _ Q E p s hn h
  | genState g k ih => intro Q E p s hn h; obtain ⟨st, hs, h⟩ := h; exact ⟨st, hs, ih _ Q E p s hn h⟩
  | newGen c k ih => intro Q E p s hn h; exact ih _ Q E p _ hn h
  | resume g r _ k ih => intro Q E p s hn h; obtain ⟨res, s', hw, h⟩ := h; exact ⟨res, s', hw, ih res Q E p s' (Nat.le_trans hn (wakes_size hw)) h⟩
  | yield _ _ _ _ => intro Q E p s _ h; exact h
  | stack k ih => intro Q E p s hn h; exact ih _ Q E p s hn h
  | fork _ _ => intro Q E p s _ h; exact h
  | thread k ih => intro Q E p s hn h; exact ih _ Q E p s hn h
  | await _ _ _ _ _ => intro Q E p s _ h; exact h

/-- the heap never shrinks -/
theorem wpAny_size {α : Type} {M : Model} {A : Around} {s : Shared} {t : Sem α} {Q : α → Shared → Prop} {E : Value → Shared → Prop} (h : wpAny M A t (fun a s' => s.heap.objs.size ≤ s'.heap.objs.size → Q a s') (fun e s' => s.heap.objs.size ≤ s'.heap.objs.size → E e s') s) :
    wpAny M A t Q E s := fun Γ p hΓ =>
  Sem.wp_mono M Γ t (fun _ _ _ x => x.2 x.1) (fun _ _ _ x => x.2 x.1) p s (wp_size M Γ _ t _ _ p s (Nat.le_refl _) (h Γ p hΓ))
end Mine
end

section
set_option maxRecDepth 100000
namespace Mine
open PySem

noncomputable def bfVal : Bf → Value
  | .len => .builtin "len"
  | .range => .type "range"
  | .all => .builtin "all"
  | .tuple => .type "tuple"
  | .list => .type "list"
  | .int => .type "int"

section
variable {G : Glo} {fs : List Env} {A : Around} {H : Hid} {S : Store} {s : Shared} {n : Nat}

theorem RdAll.one {P : Params} {h : Heap} {vs : List Value} {d : D} (r : RdAll P H h vs [d]) : ∃ v, vs = [v] ∧ Rd P H h v d := by
  cases r with | cons a b => cases b; exact ⟨_, rfl, a⟩
theorem RdAll.two {P : Params} {h : Heap} {vs : List Value} {d e : D} (r : RdAll P H h vs [d, e]) : ∃ v u, vs = [v, u] ∧ Rd P H h v d ∧ Rd P H h u e := by
  cases r with | cons a b => cases b with | cons b c => cases c; exact ⟨_, _, rfl, a, b⟩

theorem len_ok (I : Inv G fs H S s) {v : Value} {a : D} (r : Rd G.P H s.heap v a) : Wp G fs A (RR G) H S s (call (.builtin "len") [v]) (lenM a) := by
  intro hne
  have viaList : ∀ {ds : List D}, listOf S a = some ds → wpAny G.M A (call (.builtin "len") [v]) (PV G fs (RR G) H s.heap (Out.ok (.int ds.length) S)) (PE G fs H s.heap (Out.ok (.int ds.length) S : Out D)) s := by
    intro ds hl
    obtain ⟨x, vs, m, rfl, e2, e3, e4⟩ := listOf_ok I r hl
    refine PyProof.Rows.len_list (Rd.isList e2) (line63 e3) ?_
    have l := e4.length
    simp only [Array.length_toList] at l
    rw [l]
    exact ⟨_, S, H, rfl, Ext.refl, I.toks, .int _ _⟩
  unfold lenM at hne ⊢
  cases r with
  | tuple a1 a2 a3 a4 a5 =>
    rename_i b vs m ds
    refine PyProof.Rows.len_tuple (Rd.isTup a3) (line63 a4) ?_
    have l := a5.length
    simp only [Array.length_toList] at l
    rw [l]
    exact ⟨_, S, H, rfl, Ext.refl, I.toks, .int _ _⟩
  | str x t hx lx =>
    refine PyProof.Rows.len_str (by have := line63 lx; omega) ⟨_, S, H, rfl, Ext.refl, I.toks, .int _ _⟩
  | list a1 a2 a3 a4 a5 => exact viaList rfl
  | loc q =>
    dsimp only at hne ⊢
    split at hne
    · rename_i ds hl; exact viaList hl
    · exact absurd rfl hne
  | _ => exact absurd rfl hne

theorem isa_ok (I : Inv G fs H S s) {v : Value} {a : D} (r : Rd G.P H s.heap v a) (C : Cfg) (t : String) (ht : t = "bool" ∨ t = "int" ∨ t = "str" ∨ t = "tuple" ∨ t = "list") :
    Wp G fs A RV H S s (call (.builtin "isinstance") [v, .type t]) (isaM C a t) := by
  intro hne
  have fin : ∀ {b : Bool} {S' : Store} {tk : Nat}, isaM C a t S = .ok b S' → S' = S → PV G fs RV H s.heap (isaM C a t S) (.bool b) { s with toks := tk } := fun e q => by
    subst q; exact ⟨_, _, H, e, Ext.refl, I.toks, rfl⟩
  have viaList : ∀ {b : Addr} {vs : Array Value} {m : Nat}, v = .ref b → s.heap.get? b = some (lstO vs m) → isaM C a t S = .ok ((t : Str) == "list") S →
      wpAny G.M A (call (.builtin "isinstance") [v, .type t]) (PV G fs RV H s.heap (isaM C a t S)) (PE G fs H s.heap (isaM C a t S)) s := by
    intro b vs m ev e ea
    subst ev
    rcases ht with rfl | rfl | rfl | rfl | rfl
    · exact IsiPair.list_bool e rfl (fin ea rfl)
    · exact IsiPair.list_int e rfl (fin ea rfl)
    · exact IsiPair.list_str e rfl (fin ea rfl)
    · exact IsiPair.list_tuple e rfl (fin ea rfl)
    · exact IsiPair.list_list e rfl (fin (tk := s.toks) ea rfl)
  cases r with
  | none => rcases ht with rfl | rfl | rfl | rfl | rfl
            · exact IsiPair.NoneType_bool (fin rfl rfl)
            · exact IsiPair.NoneType_int (fin rfl rfl)
            · exact IsiPair.NoneType_str (fin rfl rfl)
            · exact IsiPair.NoneType_tuple (fin rfl rfl)
            · exact IsiPair.NoneType_list (fin rfl rfl)
  | bool b => rcases ht with rfl | rfl | rfl | rfl | rfl
              · exact IsiPair.bool_bool (fin (tk := s.toks) rfl rfl)
              · exact IsiPair.bool_int (fin (tk := s.toks) rfl rfl)
              · exact IsiPair.bool_str (fin rfl rfl)
              · exact IsiPair.bool_tuple (fin rfl rfl)
              · exact IsiPair.bool_list (fin rfl rfl)
  | int b => rcases ht with rfl | rfl | rfl | rfl | rfl
             · exact IsiPair.int_bool (fin rfl rfl)
             · exact IsiPair.int_int (fin (tk := s.toks) rfl rfl)
             · exact IsiPair.int_str (fin rfl rfl)
             · exact IsiPair.int_tuple (fin rfl rfl)
             · exact IsiPair.int_list (fin rfl rfl)
  | str b => rcases ht with rfl | rfl | rfl | rfl | rfl
             · exact IsiPair.str_bool (fin rfl rfl)
             · exact IsiPair.str_int (fin rfl rfl)
             · exact IsiPair.str_str (fin (tk := s.toks) rfl rfl)
             · exact IsiPair.str_tuple (fin rfl rfl)
             · exact IsiPair.str_list (fin rfl rfl)
  | tuple a1 a2 a3 a4 a5 =>
    rcases ht with rfl | rfl | rfl | rfl | rfl
    · exact IsiPair.tuple_bool a3 rfl (fin rfl rfl)
    · exact IsiPair.tuple_int a3 rfl (fin rfl rfl)
    · exact IsiPair.tuple_str a3 rfl (fin rfl rfl)
    · exact IsiPair.tuple_tuple a3 rfl (fin (tk := s.toks) rfl rfl)
    · exact IsiPair.tuple_list a3 rfl (fin rfl rfl)
  | list a1 a2 a3 a4 a5 => exact viaList rfl a3 rfl
  | loc q =>
    rename_i k b
    cases hS : S[k]? with
    | none => exact absurd (by unfold isaM; dsimp only; rw [hS]) hne
    | some o =>
      cases o with
      | list ds =>
        obtain ⟨x, vs, m, e1, e2, e3, e4⟩ := listOf_ok I (Rd.loc q) (ds := ds) (by rw [listOf_loc, hS])
        exact viaList e1 e2 (by unfold isaM; dsimp only; rw [hS])
      | dict kvs => exact absurd (by unfold isaM; dsimp only; rw [hS]) hne
  | _ => exact absurd rfl hne

theorem strsOf_rd {P : Params} {h : Heap} : ∀ {vs : List Value} {ds : List D} {xs : List Str}, RdAll P H h vs ds → strsOf ds = some xs →
    ∃ l : List (Str × Tok), vs = strValues l ∧ l.map (·.1) = xs ∧ ∀ x ∈ xs, PyData.strOk x = true
  | _, _, xs, .nil, e => by cases e; exact ⟨[], rfl, rfl, by simp⟩
  | _, _, xs, .cons (d := d) (ds := ds) a r, e => by
    cases a with
    | str x t hx lx =>
      unfold strsOf at e
      cases hs : strsOf ds with
      | none => rw [hs] at e; cases e
      | some ys =>
        rw [hs] at e; cases e
        obtain ⟨l, e1, e2, e3⟩ := strsOf_rd r hs
        refine ⟨(x, t) :: l, by rw [e1]; rfl, by simp [e2], ?_⟩
        intro y hy
        rcases List.mem_cons.mp hy with q | q
        · subst q; exact hx
        · exact e3 y q
    | _ => cases e
theorem boolsOf_rd {P : Params} {h : Heap} : ∀ {vs : List Value} {ds : List D} {bs : List Bool}, RdAll P H h vs ds → boolsOf ds = some bs → vs = bs.map .bool
  | _, _, xs, .nil, e => by cases e; rfl
  | _, _, xs, .cons (d := d) (ds := ds) a r, e => by
    cases a with
    | bool b =>
      unfold boolsOf at e
      cases hs : boolsOf ds with
      | none => rw [hs] at e; cases e
      | some ys => rw [hs] at e; cases e; rw [boolsOf_rd r hs]; rfl
    | _ => cases e

theorem all_ok (hh : A.handled = none) (I : Inv G fs H S s) {a : Addr} {vs : Array Value} {m : Nat} {bs : List Bool} (e : s.heap.get? a = some (lstO vs m)) (hb : vs.toList = bs.map .bool) {Q : Value → Shared → Prop} {E : Value → Shared → Prop}
    (hQ : ∀ h' tk, (∀ b o, s.heap.get? b = some o → h'.get? b = some o) → s.heap.objs.size ≤ h'.objs.size → Q (.bool (bs.all id)) { s with heap := h', toks := tk }) : wpAny G.M A (call (.builtin "all") [.ref a]) Q E s := by
  refine wpAny_size (call_all_walk (wpAny_pyIter_list (Rd.isList e) ?_))
  have hlt := Heap.lt_size e
  have hne : a ≠ s.heap.objs.size := Nat.ne_of_lt hlt
  refine ⟨s.heap.objs.size, [s.heap.objs.size, a], [s.heap.objs.size], vs.size, _, _, fun i => bs.getD i false, rfl, Walks.list (show A.in1.handled = none from hh) s.heap.objs.size a hne vs, ?_, ?_, ?_⟩
  · exact ⟨⟨_, Heap.get?_push_size _ rfl, rfl, rfl⟩, Rd.isList (Heap.get?_push_of_some _ e)⟩
  · intro i v s' Q' E' hv hq
    have : vs.toList[i]? = some v := by rw [Array.getElem?_toList]; exact hv
    rw [hb, List.getElem?_map] at this
    cases hbi : bs[i]? with
    | none => rw [hbi] at this; cases this
    | some b =>
      rw [hbi] at this
      cases this
      refine wpAny_truthy_bool ?_
      have : bs.getD i false = b := by simp [List.getD, hbi]
      have hq' : Q' (bs.getD i false) s' := hq
      rw [this] at hq'; exact hq'
  · intro h' tk k
    have hl : vs.size = bs.length := by
      have := congrArg List.length hb
      simpa using this
    have hall : (List.range vs.size).all (fun i => bs.getD i false) = bs.all id := by
      rw [hl, Bool.eq_iff_iff]
      simp only [List.all_eq_true, List.mem_range, id]
      constructor
      · intro q x hx
        obtain ⟨i, hi, rfl⟩ := List.mem_iff_getElem.mp hx
        have := q i hi
        simpa [List.getD, hi] using this
      · intro q i hi
        have := q bs[i] (List.getElem_mem hi)
        simpa [List.getD, hi] using this
    rw [hall]
    have kk : ∀ b o, s.heap.get? b = some o → h'.get? b = some o := fun b o e' => k b o (by simp only [List.mem_singleton]; exact Nat.ne_of_lt (Heap.lt_size e')) (Heap.get?_push_of_some _ e')
    exact fun hs => hQ h' tk kk hs

theorem rangeNew_ok (I : Inv G fs H S s) {i j : Int} {t u v tk : Nat} :
    PV G fs (RR G) H s.heap (ret (.range i j) S) (.ref s.heap.objs.size) { s with heap := s.heap.push (rngO i j t u v), toks := tk } :=
  ⟨_, S, H, rfl, Ext.push _, I.push, .range I.freshS I.freshF (Heap.get?_push_size _ rfl)⟩

theorem tupleOf_ok (I : Inv G fs H S s) {a : Addr} {vs : Array Value} {m : Nat} {ds : List D} (e : s.heap.get? a = some (lstO vs m)) (hz : vs.size ≤ sizeLine) (r : RdAll G.P H s.heap vs.toList ds) :
    wpAny G.M A (call (.type "tuple") [.ref a]) (PV G fs (RR G) H s.heap (Out.ok (.tuple ds) S)) (PE G fs H s.heap (Out.ok (.tuple ds) S : Out D)) s := by
  refine wpAny_size (call_tuple_list (Rd.isList e) (fun h' k => ?_) hz)
  intro hs
  refine newTupleAt (tk := s.toks) (c := 0) I r (by simpa using hz) (fun b o e => Heap.get?_push_of_some _ (k b o e)) hs ?_ (by simpa using Heap.get?_push_size h' rfl)
  cases hq : s.heap.get? h'.objs.size with
  | none => rfl
  | some o => exact absurd (Heap.lt_size (k _ _ hq)) (Nat.lt_irrefl _)

theorem on1_ok {m : Sem Value} {vs : List Value} {ds : List D} {k : D → EM D} (r : RdAll G.P H s.heap vs ds) (h : ∀ v a, vs = [v] → Rd G.P H s.heap v a → Wp G fs A (RR G) H S s m (k a)) : Wp G fs A (RR G) H S s m (on1 ds k) := by
  unfold on1
  split
  · obtain ⟨v, e, q⟩ := r.one
    exact h v _ e q
  · exact Wp.stk
theorem rangeM_ok (I : Inv G fs H S s) {vs : List Value} {ds : List D} (r : RdAll G.P H s.heap vs ds) : Wp G fs A (RR G) H S s (call (bfVal .range) vs) (rangeM ds) := by
  unfold rangeM
  split
  · obtain ⟨v, rfl, q⟩ := r.one
    obtain ⟨t, rfl⟩ := q.int_inv
    exact fun _ => call_range_1 (rangeNew_ok I)
  · obtain ⟨v, u, rfl, q, q'⟩ := r.two
    exact onInts_ok q q' (fun i j t t' _ _ e e' _ => by rw [e, e']; exact call_range_2 (rangeNew_ok I)) Wp.stk
  · exact Wp.stk
theorem listCall_ok (I : Inv G fs H S s) (C : Cfg) (pos : Pos) {x : Addr} {o : Obj} {vs : Array Value} {n : Nat} {ds : List D} {cn : String} (hc : cn = "list" ∨ cn = "tuple") (e : s.heap.get? x = some o) (h1 : o.cls = .type cn) (h2 : o.data = .seq vs n) (hz : vs.size ≤ sizeLine) (r : RdAll G.P H s.heap vs.toList ds) :
    Wp G fs A (RR G) H S s (call (bfVal .list) [.ref x]) (mkList C pos ds) := fun _ =>
  call_list_seq _ hc e h1 h2 (fun h' c' k hg => by
    have := newListAt (tk := s.toks) I r (by simpa using hz) C pos k (Nat.le_refl _) (c := c') (by simpa using hg)
    exact this) hz
theorem bf_ok (c : Cxt G fs A n) (I : Inv G fs H S s) {vs : List Value} {ds : List D} (r : RdAll G.P H s.heap vs ds) (C : Cfg) (pos : Pos) (b : Bf) :
    Wp G fs A (RR G) H S s (call (bfVal b) vs) (bfM C pos b ds) := by
  cases b with
  | len => exact on1_ok r fun v a e q => by rw [e]; exact len_ok I q
  | range => exact rangeM_ok I r
  | all =>
    refine on1_ok r fun v a e q => onList_ok I q fun x vs n ds e1 e2 e3 e4 hne => ?_
    rw [e, e1]
    cases hb : boolsOf ds with
    | none => rw [hb] at hne; exact absurd rfl hne
    | some bs => exact all_ok c.handled I e2 (boolsOf_rd e4 hb) fun h' tk k hs => ⟨_, S, H, rfl, Ext.of_keeps k hs, I.grow k, .bool _⟩
  | tuple =>
    refine on1_ok r fun v a e q => onTup_ok q (fun x vs n ds e1 e2 e3 e4 q0 _ => ?_) (onList_ok I q fun x vs n ds e1 e2 e3 e4 _ => ?_)
    · rw [e, e1]; rw [e1] at q0; exact PyProof.Rows.call_tuple_tup (Rd.isTup e2) ⟨_, S, H, rfl, Ext.refl, I, q0⟩
    · rw [e, e1]; exact tupleOf_ok I e2 e3 e4
  | list =>
    refine on1_ok r fun v a e q => onTup_ok q (fun x vs n ds e1 e2 e3 e4 q0 => ?_) (onList_ok I q fun x vs n ds e1 e2 e3 e4 => ?_)
    · rw [e, e1]; exact listCall_ok I C pos (.inr rfl) e2 rfl rfl e3 e4
    · rw [e, e1]; exact listCall_ok I C pos (.inl rfl) e2 rfl rfl e3 e4
  | int =>
    refine on1_ok r fun v a e q => ?_
    unfold intM
    split
    · cases q; rw [e]; exact fun _ => call_int_bool (PV.int I)
    · exact Wp.stk
end
end Mine
end

section
set_option maxRecDepth 100000
namespace Mine
open PySem

section
variable {G : Glo} {fs : List Env} {A : Around} {H : Hid} {S : Store} {s : Shared} {n : Nat}

theorem strOk_join {sep : Str} (hs : PyData.strOk sep = true) : ∀ xs : List Str, (∀ x ∈ xs, PyData.strOk x = true) → PyData.strOk (Str.join sep xs) = true
  | [], _ => by unfold Str.join; decide +kernel
  | [x], h => h x (by simp)
  | x :: y :: r, h => by
    show PyData.strOk (x ++ sep ++ Str.join sep (y :: r)) = true
    exact strOk_append (strOk_append (h x (by simp)) hs) (strOk_join hs (y :: r) fun z hz => h z (by simp only [List.mem_cons] at hz ⊢; exact .inr hz))

theorem join_ok (I : Inv G fs H S s) {sep : Str} {t : Tok} {a : Addr} {vs : Array Value} {m : Nat} {ds : List D} {xs : List Str} (hsep : PyData.strOk sep = true) (e : s.heap.get? a = some (lstO vs m)) (r : RdAll G.P H s.heap vs.toList ds)
    (hx : strsOf ds = some xs) (hj : JoinOk sep xs = true) :
    wpAny G.M A (call (.builtin "str.join") [.str sep t, .ref a]) (PV G fs (RR G) H s.heap (Out.ok (.str (Txt.join sep xs)) S)) (PE G fs H s.heap (Out.ok (.str (Txt.join sep xs)) S : Out D)) s := by
  obtain ⟨l, e1, e2, e3⟩ := strsOf_rd r hx
  subst e2
  have hl : Builtin.Str.tooLong ((l.map (·.1)).toArray.foldl (· + ·.length + sep.length) 0) = false := by
    unfold JoinOk at hj
    simpa using hj
  refine call_meets F.slot_str_join (typeIs_str _ _ _) F.entry_str_join (F.args_str_join_2 _ _) (meets_str_join_list sep t a l hl) ⟨⟨_, e, rfl, m, ?_⟩, post_join l ⟨joinOk_length hj, fun t' k => ⟨_, S, H, rfl, Ext.refl, I.toks, .str _ _ ?_ (joinOk_length hj)⟩⟩⟩
  · show Data.seq vs m = Data.seq (strValues l).toArray m
    rw [← e1]
  · show PyData.strOk (Builtin.Str.glued sep (l.map (·.1))) = true
    rw [StrLaws.glued_eq_join]
    exact strOk_join hsep _ e3

theorem strIndex_ok (I : Inv G fs H S s) {x y : Str} {t u : Tok} {k : Nat} (h : strIndex y x = some k) :
    wpAny G.M A (call (.builtin "str.index") [.str y t, .str x u]) (PV G fs (RR G) H s.heap (Out.ok (.int k) S)) (PE G fs H s.heap (Out.ok (.int k) S : Out D)) s := by
  unfold strIndex at h
  obtain ⟨rest, hr⟩ : ∃ rest, Builtin.Str.occurrences y x 0 y.length 1 = k :: rest := by
    cases ho : Builtin.Str.occurrences y x 0 y.length 1 with
    | nil => rw [ho] at h; cases h
    | cons i r => rw [ho] at h; cases h; exact ⟨r, rfl⟩
  exact call_meets F.slot_str_index (typeIs_str _ _ _) F.entry_str_index (F.args_str_index_2 _ _) (gives_str_index y x t u k rest hr).meets (by intros; exact ⟨_, S, H, rfl, Ext.refl, I.toks, .int _ _⟩)

theorem isStrD_inv {P : Params} {h : Heap} {v : Value} {a : D} (r : Rd P H h v a) (e : isStrD a = true) : ∃ x t, v = .str x t := by
  unfold isStrD at e
  split at e
  · cases r; exact ⟨_, _, rfl⟩
  · cases e
theorem mJoin_sound : MImpl.Sound "join" mJoin where
  find I r h := by
    obtain ⟨x, t, rfl⟩ := isStrD_inv r h
    exact ⟨"str", F.plainAttrs_str, F.slot_str_join, F.type_str_join, typeIs_str _ _ _, fun _ q => nomatch q⟩
  run c I r rs := onStr_ok r (fun sep t e h1 h2 => on1_ok rs fun u b e' q => onList_ok I q fun x vs n ds e1 e2 e3 e4 hne => by
    rw [e, e', e1]
    unfold joinM at hne ⊢
    cases hx : strsOf ds with
    | none => rw [hx] at hne; exact absurd rfl hne
    | some ys =>
      rw [hx] at hne
      by_cases hj : JoinOk sep ys = true
      · dsimp only; rw [if_pos hj]; exact join_ok I h1 e2 e4 hx hj
      · dsimp only at hne; rw [if_neg hj] at hne; exact absurd rfl hne) Wp.stk
theorem mIndexS_sound : MImpl.Sound "index" mIndexS where
  find I r h := by
    obtain ⟨x, t, rfl⟩ := isStrD_inv r h
    exact ⟨"str", F.plainAttrs_str, F.slot_str_index, F.type_str_index, typeIs_str _ _ _, fun _ q => nomatch q⟩
  run c I r rs := onStr_ok r (fun y t e h1 h2 => on1_ok rs fun u b e' q => onStr_ok q (fun x t' e1 _ _ hne => by
    rw [e, e', e1]
    cases hk : strIndex y x with
    | none => rw [hk] at hne; exact absurd rfl hne
    | some k => exact strIndex_ok I hk) Wp.stk) Wp.stk
end
end Mine
end

section
set_option maxRecDepth 100000
namespace Mine
open PySem

section
variable {G : Glo} {fs : List Env} {A : Around} {H : Hid} {S : Store} {s : Shared} {n : Nat}
theorem list_has {a : Addr} {vs : Array Value} {m : Nat} (e : s.heap.get? a = some (lstO vs m)) : ∀ b, Value.ref a = .ref b → ∃ ob, s.heap.get? b = some ob ∧ ob.dict = none := fun b q => by cases q; exact ⟨_, e, rfl⟩

end
end Mine
end

section
set_option maxRecDepth 100000
namespace Mine
open PySem

section
variable {G : Glo} {fs : List Env} {A : Around} {H : Hid} {S : Store} {s : Shared} {n : Nat}

theorem nodup_inj {α : Type} : ∀ {l : List α}, l.Nodup → ∀ {i j : Nat} {a : α}, l[i]? = some a → l[j]? = some a → i = j
  | [], _, _, _, _, h, _ => by cases h
  | x :: r, hn, i, j, a, h, g => by
    obtain ⟨h1, h2⟩ := List.nodup_cons.mp hn
    cases i with
    | zero =>
      cases j with
      | zero => rfl
      | succ j =>
        simp only [List.getElem?_cons_zero, Option.some.injEq] at h
        simp only [List.getElem?_cons_succ] at g
        subst h
        exact absurd (List.mem_of_getElem? g) h1
    | succ i =>
      cases j with
      | zero =>
        simp only [List.getElem?_cons_zero, Option.some.injEq] at g
        simp only [List.getElem?_cons_succ] at h
        subst g
        exact absurd (List.mem_of_getElem? h) h1
      | succ j =>
        simp only [List.getElem?_cons_succ] at h g
        rw [nodup_inj h2 h g]

theorem set_same {α : Type} {l : List α} {n : Nat} {a b : α} (h : l[n]? = some a) : (l.set n b)[n]? = some b := by
  rw [List.getElem?_set_self]; exact (List.getElem?_eq_some_iff.mp h).1

/-- a thing of the store changed -/
theorem storeSetO {k : Nat} {a : Addr} {h' : Heap} {o p : SObj} (I : Inv G fs H S s) (ha : H.ρ[k]? = some a) (hS : S[k]? = some o) (hs : Heap.SameBut a s.heap h')
    (r : Ext [] H s.heap H h' → SAt G.P H h' a p) {tk : Nat} : Ext [] H s.heap H h' ∧ Inv G fs H (setS S k p) { s with heap := h', toks := tk } := by
  have ham : a ∈ H.ρ := List.mem_of_getElem? ha
  have x : Ext [] H s.heap H h' := ⟨rfl, ⟨[], by simp, by simp⟩, fun b o h1 _ e => (hs.2 b (fun q => h1 (q ▸ ham))).trans e, fun b o h2 _ e => ⟨o.slots, (hs.2 b (fun q => I.off a ham (q ▸ h2))).trans e, fun _ => rfl⟩, Nat.le_of_eq hs.1.symm⟩
  refine ⟨x, ?_⟩
  have inj : ∀ j b, H.ρ[j]? = some b → b = a → j = k := by
    intro j b hj e
    subst e
    have hj' := List.getElem?_eq_some_iff.mp hj
    have hk' := List.getElem?_eq_some_iff.mp ha
    exact nodup_inj I.nodup hj ha
  refine ⟨fun b o e => (hs.2 b (fun q => ?_)).trans (I.stays b o e), I.newS, I.newF, I.off, fun b hb => ?_, I.nodup, by simp [setS, I.len], fun j o' e => ?_, ?_, I.gens, I.os⟩
  · rw [q, I.newS a ham] at e; cases e
  · obtain ⟨o, e⟩ := I.liveF b hb
    exact ⟨o, (hs.2 b (fun q => I.off a ham (q ▸ hb))).trans e⟩
  · by_cases hj : j = k
    · subst hj
      rw [setS, set_same hS] at e
      cases e
      exact ⟨a, ha, r x⟩
    · rw [setS, List.getElem?_set_ne (Ne.symm hj)] at e
      obtain ⟨b, e1, e2⟩ := I.objs j o' e
      exact ⟨b, e1, e2.step x fun ob q => (hs.2 b (fun q => hj (inj j b e1 q))).trans q⟩
  · exact I.fa.step (fun _ q => q) fun b o hb e => ⟨o, (hs.2 b (fun q => I.off a ham (q ▸ hb))).trans e, fun q => q⟩

theorem storeSet {k : Nat} {a : Addr} {ds : List D} {vs : Array Value} {m : Nat} {h' : Heap} {o : SObj} (I : Inv G fs H S s) (ha : H.ρ[k]? = some a) (hS : S[k]? = some o) (hs : Heap.SameBut a s.heap h') (hg : h'.get? a = some (lstO vs m)) (hz : vs.size ≤ sizeLine)
    (r : RdAll G.P H s.heap vs.toList ds) {tk : Nat} : Ext [] H s.heap H h' ∧ Inv G fs H (setS S k (.list ds)) { s with heap := h', toks := tk } :=
  storeSetO (p := .list ds) I ha hS hs fun x => ⟨vs, m, hg, hz, r.step x⟩
theorem append_ok (I : Inv G fs H S s) {k : Nat} {a : Addr} {v : Value} {d : D} {ds : List D} (ha : H.ρ[k]? = some a) (hS : S[k]? = some (.list ds)) (rv : Rd G.P H s.heap v d) (hz : ds.length < sizeLine) :
    wpAny G.M A (call (.builtin "list.append") [.ref a, v]) (PV G fs (RR G) H s.heap (Out.ok .none (setS S k (.list (ds ++ [d]))))) (PE G fs H s.heap (Out.ok .none (setS S k (.list (ds ++ [d]))) : Out D)) s := by
  obtain ⟨a', e1, vs, m, e2, e3, e4⟩ := I.objs k _ hS
  rw [ha] at e1; cases e1
  have hl := e4.length
  simp only [Array.length_toList] at hl
  refine call_meets F.slot_list_append ⟨_, e2, rfl⟩ F.entry_list_append (F.args_list_append_2 _ _) (PySem.list_append a vs m v e3) ⟨e2, ?_⟩
  obtain ⟨x, J⟩ := storeSet (tk := s.toks) (vs := vs.push v) (ds := ds ++ [d]) I ha hS (Heap.SameBut.update s.heap a _) (IsL.update e2 fun xs => xs.push v) (by simp; omega) (by simpa using e4.append (.cons rv .nil))
  exact ⟨_, _, H, rfl, x, J, .none⟩


theorem isLocL_inv {a : D} (h : isLocL S a = true) : ∃ n ds, a = .loc n ∧ S[n]? = some (.list ds) := by
  unfold isLocL at h
  split at h
  · rename_i n
    split at h
    · rename_i ds e; exact ⟨n, ds, rfl, e⟩
    · cases h
  · cases h
theorem mAppend_sound : MImpl.Sound "append" mAppend where
  find I r h := by
    obtain ⟨k, ds, rfl, hS⟩ := isLocL_inv h
    cases r with | loc ha =>
    obtain ⟨a', e1, vs, m, e2, e3, e4⟩ := I.objs k _ hS
    rw [ha] at e1; cases e1
    exact ⟨"list", F.plainAttrs_list, F.slot_list_append, F.type_list_append, ⟨_, e2, rfl⟩, list_has e2⟩
  run c I r rs := on1_ok rs fun u b e q hne => by
    rw [e]
    unfold appendM at hne ⊢
    split at hne
    · rename_i k
      cases r with | loc ha =>
      split at hne
      · rename_i ds hS
        by_cases hz : ds.length < sizeLine
        · rw [if_pos hz]; exact append_ok I ha hS q hz
        · rw [if_neg hz] at hne; exact absurd rfl hne
      · exact absurd rfl hne
    · exact absurd rfl hne
end
end Mine
end

section
set_option maxRecDepth 100000
namespace Mine
open PySem

section
variable {G : Glo} {fs : List Env} {A : Around} {H : Hid} {S : Store} {s : Shared} {n : Nat}

noncomputable def PvOk (P : Params) (H : Hid) (h : Heap) : List (Str × Value) → List (Str × D) → Prop
  | [], [] => True
  | p :: r, q :: l => p.1 = q.1 ∧ (PyData.strOk q.1 = true ∧ q.1.length ≤ sizeLine) ∧ Rd P H h p.2 q.2 ∧ PvOk P H h r l
  | _, _ => False
theorem PvOk.append {P : Params} {h : Heap} : ∀ {a : List (Str × Value)} {b : List (Str × D)} {c : List (Str × Value)} {d : List (Str × D)}, PvOk P H h a b → PvOk P H h c d → PvOk P H h (a ++ c) (b ++ d)
  | [], [], _, _, _, q => q
  | _ :: _, _ :: _, _, _, ⟨p1, p2, p3, p4⟩, q => ⟨p1, p2, p3, p4.append q⟩
  | [], _ :: _, _, _, p, _ => p.elim
  | _ :: _, [], _, _, p, _ => p.elim
theorem PvOk.keys {P : Params} {h : Heap} : ∀ {a : List (Str × Value)} {b : List (Str × D)}, PvOk P H h a b → a.map (·.1) = b.map (·.1)
  | [], [], _ => rfl
  | _ :: _, _ :: _, ⟨p1, _, _, p4⟩ => by rw [List.map_cons, List.map_cons, p1, p4.keys]
  | [], _ :: _, p => p.elim
  | _ :: _, [], p => p.elim
noncomputable def pvOf (es : List DictEntry) (kvs : List (Str × D)) : List (Str × Value) := List.zipWith (fun e p => (p.1, e.val)) es kvs
theorem ents_pv {h : Heap} : ∀ {es : List DictEntry} {kvs : List (Str × D)}, RdEnts G.P H h es kvs → Pairs (strKind G.prog G.w) es (pvOf es kvs) ∧ PvOk G.P H h (pvOf es kvs) kvs
  | _, _, .nil => ⟨.nil, trivial⟩
  | _, _, .cons (e := e) (x := x) (t := t) k a1 a2 _ r q => by
    obtain ⟨i1, i2⟩ := ents_pv q
    exact ⟨.cons (by rw [k]; exact strKind_is G.prog G.w x t) rfl i1, rfl, ⟨a1, a2⟩, r, i2⟩
theorem pv_ents {h : Heap} : ∀ {es : List DictEntry} {l : List (Str × Value)} {kvs : List (Str × D)}, Pairs (strKind G.prog G.w) es l → (∀ e ∈ es, ∃ k, (strKind G.prog G.w).is k e.key = true ∧ e.hash = (strKind G.prog G.w).hash k) → PvOk G.P H h l kvs →
    RdEnts G.P H h es kvs := by
  intro es l
  induction l generalizing es with
  | nil =>
    intro kvs hp hk hq
    cases hp
    cases kvs with
    | nil => exact .nil
    | cons _ _ => exact hq.elim
  | cons p l ih =>
    intro kvs hp hk hq
    cases kvs with
    | nil => exact hq.elim
    | cons q kvs =>
      obtain ⟨k, v⟩ := p
      obtain ⟨y, d⟩ := q
      obtain ⟨q1, q2, q3, q4⟩ := hq
      cases hp with
      | @cons e _ es _ b1 b2 b3 =>
        obtain ⟨t2, hk2⟩ := Value.isStrOf_shape b1
        obtain ⟨k2, c1, c2⟩ := hk e (List.mem_cons_self ..)
        have hkk : k2 = k := Value.isStrOf_inj e.key k2 k c1 b1
        rw [hkk] at c2
        have q1' : k = y := q1
        subst q1'
        exact .cons hk2 q2.1 q2.2 c2 (by rw [b2]; exact q3) (ih b3 (fun e he => hk e (List.mem_cons_of_mem _ he)) q4)
theorem ents_dict {h : Heap} {a : Addr} {es : Array DictEntry} {m : Nat} {kvs : List (Str × D)} (e : h.get? a = some (dicO es m)) (hn : (kvs.map (·.1)).Nodup) (r : RdEnts G.P H h es.toList kvs) : h.DictOf (strKind G.prog G.w) a (pvOf es.toList kvs) := by
  obtain ⟨i1, i2⟩ := ents_pv r
  exact ⟨_, es, m, e, ⟨rfl, rfl, rfl⟩, rfl, fun e he => ents_keys r e (Array.mem_toList_iff.mpr he), i1, by rw [i2.keys]; exact hn⟩
theorem dictOf_ok (I : Inv G fs H S s) {v : Value} {d : D} {kvs : List (Str × D)} (r : Rd G.P H s.heap v d) (e : dictOf S d = some kvs) :
    ∃ a es m, v = .ref a ∧ s.heap.get? a = some (dicO es m) ∧ RdEnts G.P H s.heap es.toList kvs ∧ a ≠ sysModules := by
  cases r with
  | dict a b c l n q x => cases e; exact ⟨_, _, _, rfl, c, q, x⟩
  | loc q =>
    unfold dictOf at e
    dsimp only at e
    split at e
    · rename_i kv hS
      cases e
      obtain ⟨a', e1, es, m, e2, _, _, e5, e6⟩ := I.objs _ _ hS
      rw [q] at e1; cases e1
      exact ⟨_, _, _, rfl, e2, e5, e6⟩
    · cases e
  | _ => cases e
theorem on2_ok {m : Sem Value} {vs : List Value} {ds : List D} {k : D → D → EM D} (r : RdAll G.P H s.heap vs ds) (h : ∀ v u a b, vs = [v, u] → Rd G.P H s.heap v a → Rd G.P H s.heap u b → Wp G fs A (RR G) H S s m (k a b)) : Wp G fs A (RR G) H S s m (on2 ds k) := by
  unfold on2
  split
  · obtain ⟨v, u, e, q, q'⟩ := r.two
    exact h v u _ _ e q q'
  · exact Wp.stk
theorem dict_has {a : Addr} {es : Array DictEntry} {m : Nat} (e : s.heap.get? a = some (dicO es m)) : ∀ b, Value.ref a = .ref b → ∃ ob, s.heap.get? b = some ob ∧ ob.dict = none := fun b q => by cases q; exact ⟨_, e, rfl⟩
theorem mGet_sound : MImpl.Sound "get" mGet where
  find I r h := by
    obtain ⟨kvs, e⟩ := Option.isSome_iff_exists.mp h
    obtain ⟨a, es, m, rfl, e2, _, _⟩ := dictOf_ok I r e
    exact ⟨"dict", F.plainAttrs_dict, F.slot_dict_get, F.type_dict_get, ⟨_, e2, rfl⟩, dict_has e2⟩
  run {G fs A n H S s v a vs ds} c I r rs := on2_ok rs fun w u x d e q q' hne => by
    rw [e]
    unfold onDict at hne ⊢
    cases hd : dictOf S a with
    | none => rw [hd] at hne; exact absurd rfl hne
    | some kvs =>
      obtain ⟨a, es, m, rfl, e2, e3, e4⟩ := dictOf_ok I r hd
      rw [hd] at hne
      dsimp only at hne ⊢
      refine onStr_ok q (fun y t e5 _ _ _ => ?_) Wp.stk hne
      subst e5
      show wpAny G.M A (call (.builtin "dict.get") [.ref a, .str y t, u]) _ _ s
      refine call_meetsIn F.slot_dict_get ⟨_, e2, rfl⟩ F.entry_dict_get (F.args_dict_get_3 _ _ _) (meets_dict_get_default (strKind G.prog G.w) _ (strKind_is G.prog G.w y t) (beq_false_of_ne e4) u) ⟨_, dict_map e2 e3, ?_⟩
      obtain ⟨q1, q2⟩ := ents_find y e3
      refine ⟨_, S, H, rfl, Ext.refl, I.toks, ?_⟩
      rw [findBy_list]
      cases hl : kvs.lookup y with
      | none => rw [q2 hl]; exact q'
      | some e => obtain ⟨u, e1, e2⟩ := q1 e hl; rw [e1]; exact e2
theorem isLocD_inv {a : D} (h : isLocD S a = true) : ∃ n kvs, a = .loc n ∧ S[n]? = some (.dict kvs) := by
  unfold isLocD at h
  split at h
  · rename_i n
    split at h
    · rename_i ds e; exact ⟨n, ds, rfl, e⟩
    · cases h
  · cases h
theorem isFz_inv {a : D} {kvs : List (Str × D)} (h : isFz a = some kvs) : a = .dict kvs := by
  unfold isFz at h
  split at h
  · cases h; rfl
  · cases h
theorem upd_ok (I : Inv G fs H S s) {k : Nat} {a : Addr} {v : Value} {kvs more : List (Str × D)} (ha : H.ρ[k]? = some a) (hS : S[k]? = some (.dict kvs)) (rv : Rd G.P H s.heap v (.dict more)) (hz : kvs.length + more.length ≤ 1000) (hn : ((kvs ++ more).map (·.1)).Nodup) :
    wpAny G.M A (call (.builtin "dict.update") [.ref a, v]) (PV G fs (RR G) H s.heap (Out.ok .none (setS S k (.dict (kvs ++ more))))) (PE G fs H s.heap (Out.ok .none (setS S k (.dict (kvs ++ more))) : Out D)) s := by
  obtain ⟨a', e1, es, m, e2, e3, e4, e5, e6⟩ := I.objs k _ hS
  rw [ha] at e1; cases e1
  cases rv with | dict b1 b2 b3 b4 b5 b6 b7 =>
  rename_i b es2 m2
  have hne : a ≠ b := fun q => b1 (q ▸ List.mem_of_getElem? ha)
  have hD := ents_dict e2 e4 e5
  have hD2 := ents_dict b3 b5 b6
  have k1 := congrArg List.length (ents_pv e5).2.keys
  have k2 := congrArg List.length (ents_pv b6).2.keys
  rw [List.length_map, List.length_map] at k1 k2
  refine call_meetsIn F.slot_dict_update hD.typeIs F.entry_dict_update (F.args_dict_update_2 _ _) (meets_dict_update (strKind G.prog G.w) _ _ hne (beq_false_of_ne b7))
    ⟨_, _, hD, hD2, by rw [k1, k2]; exact Nat.le_trans hz (by decide), fun h' hmm _ hs => ?_⟩
  rw [merged_new _ _ (by rw [List.map_append, (ents_pv e5).2.keys, (ents_pv b6).2.keys, ← List.map_append]; exact hn)] at hmm
  obtain ⟨o, es', ep, ho, hex, hd, hk, hp, _⟩ := hmm
  have hob : o = dicO es' ep := by
    obtain ⟨x1, x2, x3⟩ := hex
    obtain ⟨oc, od, oda, os⟩ := o
    cases x1; cases x2; cases x3; cases hd; rfl
  rw [hob] at ho
  have hsz : es'.size ≤ sizeLine := by
    have := pairs_len hp
    rw [← Array.length_toList, this, List.length_append, k1, k2]
    exact Nat.le_trans hz (by decide)
  obtain ⟨x, J⟩ := storeSetO (tk := s.toks) (p := .dict (kvs ++ more)) I ha hS hs fun x => ⟨es', ep, ho, hsz, hn, pv_ents hp (fun e he => hk e (Array.mem_toList_iff.mp he)) ((ents_pv (e5.step x)).2.append (ents_pv (b6.step x)).2), e6⟩
  exact ⟨_, _, H, rfl, x, J, .none⟩
theorem mUpdate_sound : MImpl.Sound "update" mUpdate where
  find I r h := by
    obtain ⟨k, kvs, rfl, hS⟩ := isLocD_inv h
    cases r with | loc ha =>
    obtain ⟨a', e1, es, m, e2, _⟩ := I.objs k _ hS
    rw [ha] at e1; cases e1
    exact ⟨"dict", F.plainAttrs_dict, F.slot_dict_update, F.type_dict_update, ⟨_, e2, rfl⟩, dict_has e2⟩
  run c I r rs := on1_ok rs fun u b e q hne => by
    rw [e]
    unfold updM at hne ⊢
    split at hne
    · rename_i k
      cases r with | loc ha =>
      split at hne
      · rename_i kvs hS
        split at hne
        · rename_i more hb
          obtain rfl := isFz_inv hb
          split at hne
          · rename_i hc
            rw [if_pos hc]
            rw [Bool.and_eq_true, decide_eq_true_eq, decide_eq_true_eq] at hc
            exact upd_ok I ha hS q hc.1 hc.2
          · exact absurd rfl hne
        · exact absurd rfl hne
      · exact absurd rfl hne
    · exact absurd rfl hne
end
end Mine
end

section
set_option maxRecDepth 100000
namespace Mine
open PySem

theorem noFill_tuple_mul : fillsNumberSlot (.type "tuple") "mul" = pure false :=
  fillsNumberSlot_seq (id := "tuple.__mul__") (r := some (.builtin "tuple.__rmul__")) F.slot_tuple_mul.lookup (by decide +kernel) F.slot_tuple_rmul.lookup (by decide +kernel)
theorem repeat_tuple : seqRepeat? (.type "tuple") = pure (some (.builtin "tuple.__mul__")) := by
  unfold seqRepeat?
  rw [seqSlot_of (T := "tuple") (name := "__mul__") (id := "tuple.__mul__") F.slot_tuple_mul.lookup (by decide +kernel), seqSlot_of (T := "tuple") (name := "__rmul__") (id := "tuple.__rmul__") F.slot_tuple_rmul.lookup (by decide +kernel)]
  rfl
theorem rmul_tuple (a : Int) (t : Tok) (l : Addr) (items : Array Value) (n : Nat) :
    Meets (Builtin.«int.__rmul__» ⟨[.int a t, .ref l], []⟩) (fun _ R s => s.heap.get? l = some (tupO items n) ∧ R (.ok (.ret Value.notImplemented)) s) :=
  .of_wp fun prog w A R s h => by obtain ⟨hp, g, d, tk, os⟩ := s; obtain ⟨hl, h⟩ := h; wp_walk; exact ⟨_, rfl, h⟩
theorem mul_one (l : Addr) (u : Tok) (items : Array Value) (n : Nat) :
    Meets (Builtin.«tuple.__mul__» ⟨[.ref l, .int 1 u], []⟩) (fun _ R s => s.heap.get? l = some (tupO items n) ∧ R (.ok (.ret (Value.ref l))) s) :=
  .of_wp fun prog w A R s h => by obtain ⟨hp, g, d, tk, os⟩ := s; obtain ⟨hl, h⟩ := h; wp_walk; exact ⟨_, rfl, h⟩
theorem mul_zero (l : Addr) (u : Tok) (items : Array Value) (n : Nat) (hc0 : ¬items.isEmpty = true) :
    Meets (Builtin.«tuple.__mul__» ⟨[.ref l, .int 0 u], []⟩) (fun _ R s => s.heap.get? l = some (tupO items n) ∧ R (.ok (.ret (Value.ref s.heap.objs.size))) { s with heap := s.heap.push { cls := Value.type "tuple", data := Data.seq #[] } }) :=
  .of_wp fun prog w A R s h => by obtain ⟨hp, g, d, tk, os⟩ := s; obtain ⟨hl, h⟩ := h; wp_walk; exact ⟨_, rfl, h⟩
theorem mul_sound : MulSound := by
  intro G fs A n H S s v u a b c I r q
  unfold mulT
  split
  · rename_i ds
    split
    · rename_i j
      intro hne
      cases r with | tuple a1 a2 a3 a4 a5 =>
      cases q with | int _ t =>
      rename_i x vs m
      have hT : s.TypeIs (.ref x) "tuple" := ⟨_, a3, rfl⟩
      refine wpAny_binaryOp_repeat_ref (T := "tuple") (U := "int") (by decide) hT (fun s' => typeIs_int s' _ _) noFill_tuple_mul F.fills_int_mul F.slot_int_rmul repeat_tuple F.slot_int_index.lookup
        (call_meets F.slot_int_rmul (typeIs_int s _ _) F.entry_int_rmul (F.args_int_rmul_2 _ _) (rmul_tuple _ _ x vs m) ⟨a3, rfl, hT, ?_⟩)
      by_cases h0 : ds.isEmpty = true
      · rw [if_pos h0] at hne; exact absurd rfl hne
      · rw [if_neg h0] at hne ⊢
        by_cases h1 : j = 0
        · subst h1
          rw [if_pos rfl]
          have hv : ¬ vs.isEmpty = true := by
            have l := a5.length
            rw [Array.length_toList] at l
            intro z
            rw [Array.isEmpty_iff_size_eq_zero] at z
            rw [z] at l
            exact h0 (List.isEmpty_iff_length_eq_zero.mpr l.symm)
          refine call_meets F.slot_tuple_mul hT F.entry_tuple_mul (F.args_tuple_mul_2 _ _) (mul_zero x t vs m hv) ⟨a3, ?_⟩
          exact newTuple_ok (vs := []) (ds := []) (tk := s.toks) I .nil (Nat.zero_le _)
        · rw [if_neg h1] at hne ⊢
          by_cases h2 : j = 1
          · subst h2
            rw [if_pos rfl]
            exact call_meets F.slot_tuple_mul hT F.entry_tuple_mul (F.args_tuple_mul_2 _ _) (mul_one x t vs m) ⟨a3, ⟨_, S, H, rfl, Ext.refl, I, .tuple a1 a2 a3 a4 a5⟩⟩
          · rw [if_neg h2] at hne; exact absurd rfl hne
    · exact Wp.stk
  · exact Wp.stk
end Mine
end

section
set_option maxRecDepth 100000
namespace Mine
open PySem

noncomputable def asciiS (x : Str) : Bool := x.cps.all fun c => decide (c < 128)
noncomputable def upM (x : Str) : EM D := if asciiS x && decide (x.length ≤ 10000) then ret (.str (Txt.upper x)) else stk
noncomputable def on0 (args : List D) (k : EM D) : EM D := match args with
  | [] => k
  | _ => stk
noncomputable def mUpper : MImpl := ⟨fun _ a => isStrD a, fun a ds => on0 ds (onStr a upM stk), fun _ => "str.upper"⟩
theorem up128 : ∀ c : Fin 128, (Unicode.upperOf c.val).all (fun d => decide (d < 128)) = true := by decide +kernel
theorem upper_ascii {x : Str} (h : asciiS x = true) : asciiS (Txt.upper x) = true := by
  unfold asciiS at *
  rw [Array.all_eq_true'] at *
  intro d hd
  have hd' : d ∈ (x.cps.mapIdx fun _ c => (Unicode.upperOf c).toArray).flatten := hd
  obtain ⟨a, ha, hda⟩ := Array.mem_flatten.mp hd'
  obtain ⟨i, hi, rfl⟩ := Array.mem_mapIdx.mp ha
  have hc := of_decide_eq_true (h _ (Array.getElem_mem hi))
  have := up128 ⟨x.cps[i], hc⟩
  rw [List.all_eq_true] at this
  exact this d (by simpa using hda)
theorem ascii_ok {x : Str} (h : asciiS x = true) : PyData.strOk x = true := by
  unfold PyData.strOk
  unfold asciiS at h
  rw [Array.all_eq_true'] at *
  intro d hd
  have := of_decide_eq_true (h d hd)
  exact decide_eq_true (by omega)
section
variable {G : Glo} {fs : List Env} {A : Around} {H : Hid} {S : Store} {s : Shared} {n : Nat}
theorem upM_ok (I : Inv G fs H S s) {x : Str} {t : Tok} : Wp G fs A (RR G) H S s (call (.builtin "str.upper") [.str x t]) (upM x) := by
  unfold upM
  refine wp_ite fun hc _ => ?_
  rw [Bool.and_eq_true, decide_eq_true_eq] at hc
  have hl := PyProof.Rows.len_upper x
  have hz : (Txt.upper x).length ≤ sizeLine := by
    have : sizeLine = 16777216 := by decide
    omega
  have hx := ascii_ok (upper_ascii hc.1)
  exact SC.upper (PyProof.Rows.fit_upper (by omega)) ⟨_, S, H, rfl, Ext.refl, I.toks, .str _ _ hx hz⟩
theorem mUpper_sound : MImpl.Sound "upper" mUpper where
  find I r h := by
    obtain ⟨x, t, rfl⟩ := isStrD_inv r h
    exact ⟨"str", F.plainAttrs_str, F.slot_str_upper, F.type_str_upper, typeIs_str _ _ _, fun _ q => nomatch q⟩
  run {G fs A n H S s v a vs ds} c I r rs := by
    show Wp G fs A (RR G) H S s (call (.builtin "str.upper") (v :: vs)) (on0 ds (onStr a upM stk))
    unfold on0
    split
    · cases rs
      refine onStr_ok r (fun y t e h1 h2 => ?_) Wp.stk
      rw [e]; exact upM_ok I
    · exact Wp.stk
end
end Mine
end

section
set_option maxRecDepth 100000
namespace Mine
open PySem

section
variable {G : Glo} {fs : List Env} {A : Around} {H : Hid} {S : Store} {s : Shared} {n : Nat}

noncomputable def ltS (x y : Str) : Bool := decide (x.cps.toList < y.cps.toList)
end
end Mine
end

section
set_option maxRecDepth 100000
namespace Mine
open PySem

noncomputable def max2 (args : List D) : EM D := match args with
  | [a, b] => onInts a b (fun i j => ret (.int (if j > i then j else i))) stk
  | _ => stk
noncomputable def bMax : BImpl := ⟨.builtin "max", fun _ args => max2 args⟩
theorem bMax_sound : BImpl.Sound "max" bMax where
  mem := by decide +kernel
  boot := by rfl
  ne := by decide +kernel
  val := ⟨_, rfl⟩
  run own c I r := by
    rename_i G fs A n H S s vs ds
    show Wp G fs A (RR G) H S s (call (.builtin "max") vs) (max2 ds)
    unfold max2
    split
    · obtain ⟨v, u, rfl, q, q'⟩ := r.two
      refine onInts_ok q q' (fun i j t t' _ _ e e' _ => ?_) Wp.stk
      rw [e, e']
      refine wpAny_size (max_two_ints c.handled fun h' tk k hs => ?_)
      refine ⟨_, S, H, rfl, Ext.of_keeps k hs, I.grow k, ?_⟩
      split
      · exact .int _ _
      · exact .int _ _
    · exact Wp.stk
end Mine
end

section
set_option maxRecDepth 100000
namespace Mine
open PySem

noncomputable def min2 (args : List D) : EM D := match args with
  | [a, b] => onInts a b (fun i j => ret (.int (if j < i then j else i))) stk
  | _ => stk
noncomputable def bMin2 : BImpl := ⟨.builtin "min", fun _ args => min2 args⟩
theorem bMin2_sound : BImpl.Sound "min" bMin2 where
  mem := by decide +kernel
  boot := by rfl
  ne := by decide +kernel
  val := ⟨_, rfl⟩
  run own c I r := by
    rename_i G fs A n H S s vs ds
    show Wp G fs A (RR G) H S s (call (.builtin "min") vs) (min2 ds)
    unfold min2
    split
    · obtain ⟨v, u, rfl, q, q'⟩ := r.two
      refine onInts_ok q q' (fun i j t t' _ _ e e' _ => ?_) Wp.stk
      rw [e, e']
      refine wpAny_size (min_two_ints c.handled fun h' tk k hs => ?_)
      refine ⟨_, S, H, rfl, Ext.of_keeps k hs, I.grow k, ?_⟩
      split
      · exact .int _ _
      · exact .int _ _
    · exact Wp.stk
end Mine
end

section
set_option maxRecDepth 100000
namespace Mine
open PySem

-- the type 'reversed', as a tuple has it
theorem rv_owner : Manifest.owners.lookup (String.ofList ['d', 'e', 's', 'r', 'e', 'v', 'e', 'r'].reverse) = some Manifest.sig_reversed := by kernel_rfl
theorem rv_next : Slot "reversed" "__next__" "reversed.__next__" :=
  .of (owner := "reversed") (n := "__next__") (by rw [typeLookup_type, builtinLookup_eq_fast]; kernel_rfl) (by decide +kernel) (by decide +kernel) (by decide +kernel)
    (by first | exact .inl (by decide +kernel) | exact .inr (by decide +kernel)) (by rw [isSubtype_type]; kernel_rfl)
theorem rv_next_entry : entryFor table "reversed.__next__" = some Builtin.«reversed.__next__» := entryFor_of_tree (by kernel_rfl)
theorem rv_next_args (a : Value) : argsOk "reversed.__next__" ⟨[a], []⟩ := by
  unfold argsOk; rw [signature?_of (id := "reversed.__next__") (n := ['_', '_', 't', 'x', 'e', 'n', '_', '_']) (o := ['d', 'e', 's', 'r', 'e', 'v', 'e', 'r']) (by kernel_rfl) rv_owner]; kernel_rfl
theorem rv_iter : Slot "reversed" "__iter__" "reversed.__iter__" :=
  .of (owner := "reversed") (n := "__iter__") (by rw [typeLookup_type, builtinLookup_eq_fast]; kernel_rfl) (by decide +kernel) (by decide +kernel) (by decide +kernel)
    (by first | exact .inl (by decide +kernel) | exact .inr (by decide +kernel)) (by rw [isSubtype_type]; kernel_rfl)
theorem rv_iter_args (a : Value) : argsOk "reversed.__iter__" ⟨[a], []⟩ := by
  unfold argsOk; rw [signature?_of (id := "reversed.__iter__") (n := ['_', '_', 'r', 'e', 't', 'i', '_', '_']) (o := ['d', 'e', 's', 'r', 'e', 'v', 'e', 'r']) (by kernel_rfl) rv_owner]; kernel_rfl
theorem rv_iter_entry : entryFor table "reversed.__iter__" = some Builtin.«dict_keyiterator.__iter__» :=
  entryFor_alias (id' := "dict_keyiterator.__iter__") (by kernel_rfl) (by first | rfl | decide +kernel | (unfold String.splitOn; simp +decide [String.splitOnAux])) (by decide +kernel) (by kernel_rfl)
theorem rv_init : Slot "reversed" "__init__" "object.__init__" :=
  .of (owner := "object") (n := "__init__") (by rw [typeLookup_type, builtinLookup_eq_fast]; kernel_rfl) (by decide +kernel) (by decide +kernel) (by decide +kernel)
    (by first | exact .inl (by decide +kernel) | exact .inr (by decide +kernel)) (by rw [isSubtype_type]; kernel_rfl)
theorem rv_called : TypeCalled "reversed" "reversed.__new__" "object.__init__" :=
  ⟨by decide +kernel, by decide +kernel, ⟨_, _, F.mro_reversed⟩, F.made_reversed, by decide +kernel, by rw [isSubtype_type]; kernel_rfl, rv_init⟩
theorem rv_nolen : typeLookup (.type "reversed") "__len__" = pure none := by rw [typeLookup_type, builtinLookup_eq_fast]; kernel_rfl
theorem rv_hint : typeLookup (.type "reversed") "__length_hint__" = pure (some (.builtin "reversed.__length_hint__")) := by rw [typeLookup_type, builtinLookup_eq_fast]; kernel_rfl
theorem rv_hint_slot : Slot "reversed" "__length_hint__" "reversed.__length_hint__" :=
  .of (owner := "reversed") (n := "__length_hint__") rv_hint (by decide +kernel) (by decide +kernel) (by decide +kernel)
    (by first | exact .inl (by decide +kernel) | exact .inr (by decide +kernel)) (by rw [isSubtype_type]; kernel_rfl)
theorem rv_hint_entry : entryFor table "reversed.__length_hint__" = some Builtin.«reversed.__length_hint__» := entryFor_of_tree (by kernel_rfl)
theorem rv_hint_args (a : Value) : argsOk "reversed.__length_hint__" ⟨[a], []⟩ := by
  unfold argsOk; rw [signature?_of (id := "reversed.__length_hint__") (n := ['_', '_', 't', 'n', 'i', 'h', '_', 'h', 't', 'g', 'n', 'e', 'l', '_', '_']) (o := ['d', 'e', 's', 'r', 'e', 'v', 'e', 'r']) (by kernel_rfl) rv_owner]; kernel_rfl
theorem tp_norev : typeLookup (.type "tuple") "__reversed__" = pure none := by rw [typeLookup_type, builtinLookup_eq_fast]; kernel_rfl
theorem tp_nodict : isSubtype (.type "tuple") (.type "dict") = pure false := by rw [isSubtype_type]; kernel_rfl

noncomputable abbrev rvO (t : Addr) (i : Int) : Obj := { cls := .type "reversed", dict := none, data := .fields #[.ref t, rawInt i], slots := #[] }
section
variable {prog : Program} {w : World} {A : Around} {E : Value → Shared → Prop} {s : Shared}
theorem rv_new {t : Addr} {items : Array Value} {Q₁ : Value → Shared → Prop} (ht : PyProof.Rows.IsTup s.heap t items) (hz : (items.size : Int) < 2 ^ 63)
    (h : ∀ tk, Q₁ (.ref s.heap.objs.size) { s with heap := s.heap.push (rvO t ((items.size : Int) - 1)), toks := tk }) :
    codeAny (model prog w) A (.call (.builtin "reversed.__new__") ⟨[.type "reversed", .ref t], []⟩) (wants Q₁ E) s := by
  refine codeAny_of_tree ?_
  show wpAny _ A.in1 (do checkBuiltinCall "reversed.__new__" ⟨[.type "reversed", .ref t], []⟩; again (.builtin "reversed.__new__" ⟨[.type "reversed", .ref t], []⟩)) _ _ s
  refine wpAny_bind (wpAny_of_eq (F.newCall_reversed_1 _) (wpAny_pure ⟨plainId_quiet F.plain_reversed_new _, codeAny_builtin F.entry_reversed_new ?_⟩))
  rw [Around.under_plainId F.plain_reversed_new _]
  unfold Builtin.«reversed.__new__»
  refine wpAny_bind (wpAny_of_eq (newClass_reversed _) ?_)
  refine wpAny_bind (wpAny_of_eq (a := ()) (by first | rfl | kernel_rfl) ?_)
  refine wpAny_bind (wpAny_of_eq (a := ()) (by first | rfl | kernel_rfl) ?_)
  dsimp only
  refine wpAny_bind (wpAny_specialOf ht.typeIs tp_norev ?_)
  dsimp only
  refine wpAny_bind ?_
  show wpAny _ A.in1 (isInstance (.ref t) (.type "dict") >>= _) _ _ s
  refine wpAny_bind (wpAny_isInstance ht.typeIs tp_nodict ?_)
  show wpAny _ A.in1 (specialOf (.ref t) (Str.ofString "__getitem__") >>= _) _ _ s
  refine wpAny_bind (wpAny_specialOf ht.typeIs F.slot_tuple_getitem.lookup ?_)
  show wpAny _ A.in1 (if (List.contains _ "tuple.__getitem__") = true then pure true else _) _ _ s
  rw [if_pos (by decide +kernel)]
  refine wpAny_pure ?_
  rw [if_neg (by decide)]
  refine wpAny_bind (PyProof.Rows.len_tuple ht hz ?_)
  refine wpAny_bind (wpAny_pure ?_)
  dsimp only
  refine wpAny_bind ?_
  unfold Builtin.SmallTypes.newRecord
  dsimp only
  refine wpAny_newObj_type (wpAny_pure ?_)
  exact h _
theorem rv_call {t : Addr} {items : Array Value} {Q : Value → Shared → Prop} (ht : PyProof.Rows.IsTup s.heap t items) (hz : (items.size : Int) < 2 ^ 63)
    (h : ∀ tk, Q (.ref s.heap.objs.size) { s with heap := s.heap.push (rvO t ((items.size : Int) - 1)), toks := tk }) : wpAny (model prog w) A (call (.type "reversed") [.ref t]) Q E s := by
  refine callType_codes (Q₁ := fun obj s₁ => s₁.TypeIs obj "reversed" ∧ Q obj s₁) rv_called (F.typeCall_reversed_1 _) F.entry_object_init
    (rv_new ht hz fun tk => ⟨⟨_, Heap.get?_push_size _ rfl, rfl⟩, h tk⟩) fun obj s₁ h₁ => ?_
  exact ⟨h₁.1, F.args_object_init_2 obj _, object_init_meets rv_called.init.lookup rv_called.made (by decide) prog w A.in1 _ s₁ ⟨h₁.1, rfl, h₁.2⟩⟩
noncomputable def IsRv (h : Heap) (a t : Addr) (i : Int) : Prop := ∃ o, h.get? a = some o ∧ o.cls = .type "reversed" ∧ o.data = .fields #[.ref t, rawInt i]
theorem IsRv.typeIs {a t : Addr} {i : Int} (x : IsRv s.heap a t i) : s.TypeIs (.ref a) "reversed" := let ⟨o, ho, hc, _⟩ := x; ⟨o, ho, hc⟩
theorem IsRv.at {h h' : Heap} {a t : Addr} {i : Int} (x : IsRv h a t i) (e : ∀ o, h.get? a = some o → h'.get? a = some o) : IsRv h' a t i := let ⟨o, ho, r⟩ := x; ⟨o, e _ ho, r⟩
theorem rv_item {it t : Addr} {i : Nat} {items : Array Value} {x : Value} {Q : Option Value → Shared → Prop} (hit : IsRv s.heap it t (i : Int)) (hl : PyProof.Rows.IsTup s.heap t items) (hz : (items.size : Int) < 2 ^ 63) (hx : items[i]? = some x)
    (hQ : ∀ h' tk, IsRv h' it t ((i : Int) - 1) → Heap.SameBut it s.heap h' → Q (some x) { s with heap := h', toks := tk }) : wpAny (model prog w) A (pyNext (.ref it)) Q E s := by
  obtain ⟨o, ho, hc, hd⟩ := id hit
  have hi : i < items.size := (Array.getElem?_eq_some_iff.mp hx).1
  unfold pyNext
  refine wpAny_bind (wpAny_attempt (wpAny_callSpecial?_slot (name := Str.ofString "__next__") hit.typeIs rv_next (wpAny_call_entry rv_next hit.typeIs rv_next_entry ?_ (rv_next_args _))))
  unfold Builtin.«reversed.__next__»
  refine wpAny_bind (wpAny_of_eq (a := (Value.ref it, [])) rfl ?_)
  refine wpAny_bind (wpAny_field ho hd (x := .ref t) rfl ?_)
  refine wpAny_bind (wpAny_field ho hd (x := rawInt (i : Int)) rfl ?_)
  show wpAny _ _ (if (i : Int) < 0 then _ else _) _ _ s
  rw [if_neg (by omega)]
  refine wpAny_bind (wpAny_specialOf hl.typeIs F.slot_tuple_getitem.lookup ?_)
  dsimp only
  rw [if_neg (by decide)]
  refine wpAny_bind (wpAny_mkInt ?_)
  refine wpAny_bind (wpAny_attempt (PyProof.Rows.getItem_tuple hl (by omega) (by omega) (j := i) (by
    unfold seqIndex?
    have h1 : ¬ ((i : Int) < 0) := by omega
    simp only [h1, if_false]
    simp [hi]) hx ?_))
  dsimp only
  refine wpAny_bind (wpAny_field ho hd (x := rawInt (i : Int)) rfl ?_)
  refine wpAny_bind (wpAny_setField ho hd (by simp) ?_)
  refine wpAny_pure ⟨x, rfl, wpAny_pure (hQ _ _ ?_ (Heap.SameBut.update ..))⟩
  exact ⟨_, Heap.get?_update_self _ ho (Obj.isFreed_of_fields (Obj.data_mapFields hd _)), (Obj.cls_mapFields ..).trans hc, by
    rw [Obj.data_mapFields hd]; simp⟩
theorem rv_end {it t : Addr} {Q : Option Value → Shared → Prop} (hh : A.handled = none) (hit : IsRv s.heap it t (-1))
    (hQ : ∀ h', (∀ b o, b ≠ it → s.heap.get? b = some o → h'.get? b = some o) → Q none { s with heap := h' }) : wpAny (model prog w) A (pyNext (.ref it)) Q E s := by
  obtain ⟨o, ho, hc, hd⟩ := id hit
  unfold pyNext
  refine wpAny_bind (wpAny_attempt (wpAny_callSpecial?_slot (name := Str.ofString "__next__") hit.typeIs rv_next (wpAny_call_entry rv_next hit.typeIs rv_next_entry ?_ (rv_next_args _))))
  unfold Builtin.«reversed.__next__»
  refine wpAny_bind (wpAny_of_eq (a := (Value.ref it, [])) rfl ?_)
  refine wpAny_bind (wpAny_field ho hd (x := .ref t) rfl ?_)
  refine wpAny_bind (wpAny_field ho hd (x := rawInt (-1)) rfl ?_)
  show wpAny _ _ (if (-1 : Int) < 0 then _ else _) _ _ s
  rw [if_pos (by decide)]
  refine wpAny_bind (wpAny_rule ?_)
  refine wpAny_bind ?_
  show wpAny _ _ (setField (.ref it) 1 (rawInt (-1)) >>= fun _ => setField (.ref it) 0 .none) _ _ s
  refine wpAny_bind (wpAny_setField ho hd (by simp) ?_)
  have ho2 := Heap.get?_update_self (Obj.mapFields (·.setIfInBounds 1 (rawInt (-1)))) ho (Obj.isFreed_of_fields (Obj.data_mapFields hd _))
  refine wpAny_setField ho2 (Obj.data_mapFields hd _) (by simp) ?_
  refine wpAny_bind ?_
  show wpAny _ _ (newExc (.type "StopIteration") [] >>= _) _ _ _
  refine wpAny_bind ?_
  simp only [newExc, newTuple]
  refine wpAny_bind (wpAny_newObj_type ?_ (by size_fits))
  refine wpAny_bind (m := firstArgMember _ _) (wpAny_of_eq (a := Value.none) (by first | rfl | (simp only [firstArgMember]; rfl)) ?_)
  refine wpAny_newObj_type ?_ (by size_fits)
  simp only [raiseNew]
  refine wpAny_bind (wpAny_handled ?_)
  rw [show A.in1.handled = none from hh]
  refine wpAny_bind (wpAny_pure (wpAny_throw ?_))
  refine wpAny_bind (wpAny_isInstance (T := "StopIteration") (b := true) ⟨_, Heap.get?_push_size _ rfl, rfl⟩ isSubtype_stop ?_)
  refine wpAny_pure (hQ _ fun b o hb e => ?_)
  exact Heap.get?_push_of_some _ (Heap.get?_push_of_some _ ((Heap.get?_update_other _ _ (Ne.symm hb)).trans ((Heap.get?_update_other _ _ (Ne.symm hb)).trans e)))
theorem rv_self {it t : Addr} {i : Int} {Q : Value → Shared → Prop} (hit : IsRv s.heap it t i) (h : Q (.ref it) s) : wpAny (model prog w) A (pyIter (.ref it)) Q E s := by
  refine wpAny_pyIter_slot hit.typeIs rv_iter (wpAny_call_entry rv_iter hit.typeIs rv_iter_entry ?_ (rv_iter_args _))
  show wpAny _ _ (PySem.ret (.ref it)) _ _ s
  exact wpAny_pure ⟨_, rfl, "reversed", _, hit.typeIs, rv_next.lookup, h⟩
end
theorem IsTup.at' {h h' : Heap} {t : Addr} {items : Array Value} (x : PyProof.Rows.IsTup h t items) (e : ∀ o, h.get? t = some o → h'.get? t = some o) : PyProof.Rows.IsTup h' t items := by
  obtain ⟨o, ho, r⟩ := x
  exact ⟨o, e _ ho, r⟩
theorem rv_walks {prog : Program} {w : World} {A : Around} (hh : A.handled = none) (I t : Addr) (hne : t ≠ I) (items : Array Value) (hz : (items.size : Int) < 2 ^ 63) :
    Walks prog w A I [I, t] [I] items.size (fun i v => items[items.size - 1 - i]? = some v) (fun i h => i ≤ items.size ∧ IsRv h I t ((items.size : Int) - 1 - (i : Int)) ∧ PyProof.Rows.IsTup h t items) where
  sub := fun b hb => by simp at hb; simp [hb]
  frame := fun _ _ _ x hk => ⟨x.1, x.2.1.at fun o e => hk I (by simp) o e, IsTup.at' x.2.2 fun o e => hk t (by simp) o e⟩
  item := fun i s Q E hi x hQ => by
    have e : (items.size : Int) - 1 - (i : Int) = ((items.size - 1 - i : Nat) : Int) := by omega
    have hit := x.2.1
    rw [e] at hit
    have hx : items[items.size - 1 - i]? = some (items[items.size - 1 - i]'(by omega)) := Array.getElem?_eq_getElem (by omega)
    refine rv_item hit x.2.2 hz hx fun h' tk hit' hs' => ?_
    have e2 : ((items.size - 1 - i : Nat) : Int) - 1 = (items.size : Int) - 1 - ((i + 1 : Nat) : Int) := by omega
    rw [e2] at hit'
    exact hQ _ h' tk hx ⟨hi, hit', IsTup.at' x.2.2 fun o eo => (hs'.2 t hne).trans eo⟩ fun b o hb eo => hs'.extBut b o (fun h => hb (by simp [h])) eo
  done := fun s Q E x hQ => by
    have e : (items.size : Int) - 1 - (items.size : Int) = -1 := by omega
    have hit := x.2.1
    rw [e] at hit
    exact rv_end hh hit fun h' he' => hQ h' s.toks fun b o hb eo => he' b o (fun h => hb (by simp [h])) eo
  self := fun _ _ _ _ x hQ => rv_self x.2.1 hQ
end Mine
end

section
set_option maxRecDepth 100000
namespace Mine
open PySem

section
variable {prog : Program} {w : World} {A : Around} {E : Value → Shared → Prop} {s : Shared}
theorem rv_hint_call {I t : Addr} {items : Array Value} {Q : Value → Shared → Prop} (hit : IsRv s.heap I t ((items.size : Int) - 1)) (hl : PyProof.Rows.IsTup s.heap t items) (hz : (items.size : Int) < 2 ^ 63)
    (h : ∀ u tk, s.toks ≤ tk → Q (.int (items.size : Int) u) { s with toks := tk }) : wpAny (model prog w) A (call (.builtin "reversed.__length_hint__") [.ref I]) Q E s := by
  obtain ⟨o, ho, hc, hd⟩ := id hit
  refine wpAny_call_entry rv_hint_slot hit.typeIs rv_hint_entry ?_ (rv_hint_args _)
  unfold Builtin.«reversed.__length_hint__»
  refine wpAny_bind (wpAny_of_eq (a := Value.ref I) rfl ?_)
  refine wpAny_bind (wpAny_field ho hd (x := .ref t) rfl ?_)
  rw [if_neg (by show ¬ ((Value.ref t == Value.none) = true); exact Bool.false_ne_true)]
  refine wpAny_bind (PyProof.Rows.len_tuple hl hz ?_)
  refine wpAny_bind (wpAny_pure ?_)
  dsimp only
  refine wpAny_bind (wpAny_field ho hd (x := rawInt ((items.size : Int) - 1)) rfl ?_)
  show wpAny _ _ (if (items.size : Int) < (items.size : Int) - 1 + 1 then _ else retInt ((items.size : Int) - 1 + 1)) _ _ _
  rw [if_neg (by omega), show (items.size : Int) - 1 + 1 = items.size from by omega]
  unfold retInt
  refine wpAny_bind (wpAny_mkInt (wpAny_pure ⟨_, rfl, ?_⟩))
  exact h _ _ (by show s.toks ≤ _; simp only; omega)
theorem rv_collect {I t : Addr} {items : Array Value} {Q : List Value → Shared → Prop} (hh : A.handled = none) (hne : t ≠ I) (hz : items.size ≤ sizeLine)
    (hit : IsRv s.heap I t ((items.size : Int) - 1)) (hl : PyProof.Rows.IsTup s.heap t items)
    (hQ : ∀ s' acc, Moved [I] (fun a b => b = a) s s' → ItemsOf (fun i v => items[items.size - 1 - i]? = some v) acc items.size → Q acc.toList s') : wpAny (model prog w) A (collect (.ref I)) Q E s := by
  have hz63 : (items.size : Int) < 2 ^ 63 := by
    have : sizeLine = 16777216 := by decide
    omega
  have W := (rv_walks (prog := prog) (w := w) (A := A.in1) hh I t hne items hz63).toS
  have hst : (fun i (s : Shared) => i ≤ items.size ∧ IsRv s.heap I t ((items.size : Int) - 1 - (i : Int)) ∧ PyProof.Rows.IsTup s.heap t items) 0 s := ⟨Nat.zero_le _, by simpa using hit, hl⟩
  have hfp : ∀ b ∈ [I, t], b < s.heap.objs.size := by
    intro b hb
    simp only [List.mem_cons, List.not_mem_nil, or_false] at hb
    rcases hb with rfl | rfl
    · obtain ⟨o, ho, _⟩ := hit; exact Heap.lt_size ho
    · obtain ⟨o, ho, _⟩ := hl; exact Heap.lt_size ho
  have hSf : s.heap.objs.size ∉ [I, t] := fun hm => Nat.lt_irrefl _ (hfp _ hm)
  have hSI : s.heap.objs.size ≠ I := fun e => hSf (e ▸ List.mem_cons_self ..)
  unfold collect
  refine wpAny_bind (wpAny_runValue (codeAny_builtin F.entry_proto_collect ?_))
  rw [Around.under_plainId F.plain_proto_collect _]
  show wpAny _ A.in1 (newList [] >>= fun l => again (.builtin "list.__iadd__" ⟨[l, .ref I], []⟩)) _ _ s
  refine wpAny_bind (wpAny_newObj_type ?_)
  refine wpAny_pure ⟨plainId_quiet F.plain_list_iadd _, codeAny_builtin F.entry_list_iadd ?_⟩
  rw [Around.under_plainId F.plain_list_iadd _]
  have hst₁ := W.frame 0 s (s.heap.push { cls := .type "list", data := .seq ([] : List Value).toArray }) s.toks hst (Nat.le_refl _) fun b _ o e => Heap.get?_push_of_some _ e
  have hS₁ : (s.heap.push { cls := .type "list", data := .seq ([] : List Value).toArray }).get? s.heap.objs.size = some { cls := .type "list", data := .seq ([] : List Value).toArray } := Heap.get?_push_size _ rfl
  have h1 : Builtin.List.listSameRef (.ref s.heap.objs.size) (.ref I) = false := by simp [Builtin.List.listSameRef, hSI]
  have hT₁ : ({ s with heap := s.heap.push { cls := .type "list", data := .seq ([] : List Value).toArray } } : Shared).TypeIs (.ref I) "reversed" := hst₁.2.1.typeIs
  show wpAny _ A.in1 (Builtin.List.listExtendWith (.ref s.heap.objs.size) (.ref I) (.ref s.heap.objs.size)) _ _ _
  unfold Builtin.List.listExtendWith
  refine wpAny_bind (wpAny_typeOf hT₁ ?_)
  rw [if_neg (by rw [h1]; decide)]
  refine wpAny_bind (W.self 0 _ _ _ hst₁ ?_)
  refine wpAny_bind (wpAny_holding ?_)
  unfold Builtin.List.listLengthHint
  refine wpAny_bind (wpAny_specialOf hT₁ rv_nolen ?_)
  show wpAny _ A.in1 (specialOf (Value.ref I) (Str.ofString "__length_hint__") >>= _) _ _ _
  refine wpAny_bind (wpAny_specialOf hT₁ rv_hint ?_)
  (generalize hid : ("reversed.__length_hint__" : String) = id0; (fail_if_success (clear hid id0)); wp_delta; rw [show splitId id0 = some ("reversed", "__length_hint__") from by subst hid; decide +kernel]; subst hid)
  refine wpAny_bind (wpAny_isInstance (b := true) hT₁ (by rw [isSubtype_type]; kernel_rfl) ?_)
  rw [if_neg (by decide)]
  dsimp only
  rw [if_neg (by decide +kernel)]
  refine wpAny_bind (wpAny_rule ?_)
  refine wpAny_bind (wpAny_of_eq (rv_hint_slot.bind _) ?_)
  dsimp only
  have hit₁ : IsRv (s.heap.push { cls := .type "list", data := .seq ([] : List Value).toArray }) I t ((items.size : Int) - 1) := hit.at fun o e => Heap.get?_push_of_some _ e
  obtain ⟨N, hN⟩ : ∃ N : Int, (items.size : Int) = N := ⟨_, rfl⟩
  refine wpAny_bind (wpAny_attempt (rv_hint_call hit₁ hst₁.2.2 hz63 fun u tk htk => ?_))
  have b1 : Builtin.List.listFitsIndex N = true := by
    rw [← hN]
    unfold Builtin.List.listFitsIndex
    rw [decide_eq_true (by omega : -(2 ^ 63 : Int) ≤ (items.size : Int)), decide_eq_true hz63]; rfl
  have b3 : Builtin.List.listTooLong N.toNat = false := by
    rw [← hN]
    unfold Builtin.List.listTooLong
    rw [Int.toNat_natCast]
    exact decide_eq_false (by omega)
  rw [hN]
  refine wpAny_bind (m := asInt? (.int N u)) (wpAny_pure ?_)
  show wpAny _ _ (if (!Builtin.List.listFitsIndex N) = true then _ else _) _ _ _
  rw [if_neg (by rw [b1]; decide), if_neg (by omega), if_neg (by rw [b3]; decide)]
  refine wpAny_pure ?_
  have oth : ∀ b o, b ≠ s.heap.objs.size → (s.heap.push { cls := .type "list", data := .seq ([] : List Value).toArray }).get? b = some o →
      (((s.heap.push { cls := .type "list", data := .seq ([] : List Value).toArray }).update s.heap.objs.size (Obj.mapSeq (·.push Value.none))).update s.heap.objs.size (Obj.mapSeq (·.pop))).get? b = some o :=
    fun b o hb e => (Heap.get?_update_other _ _ (Ne.symm hb)).trans ((Heap.get?_update_other _ _ (Ne.symm hb)).trans e)
  by_cases h0 : items.size = 0
  · rw [if_neg (by rw [← hN, h0]; decide)]
    refine wpAny_pure ⟨plainId_quiet F.plain_extend_loop _, codeAny_extend_loopS W hz _ hSf _ items.size 0 _ _ _ rfl (Nat.zero_le _) ⟨Nat.zero_le _, by simpa using hit₁, hst₁.2.2⟩ hS₁ (ItemsOf.nil _) fun s' acc' c' hm hS' hacc => ?_⟩
    show wpAny _ A (load s.heap.objs.size >>= _) _ _ s'
    refine wpAny_bind (wpAny_load hS' ?_)
    exact wpAny_pure (hQ s' acc' (Moved.drop_new (o := { cls := .type "list", data := .seq ([] : List Value).toArray }) (tk := tk) hm htk) hacc)
  · rw [if_pos (by
      rw [Bool.or_eq_true]
      left
      simp only [bne_iff_ne, ne_eq]
      omega)]
    refine wpAny_bind (wpAny_rule ?_)
    refine wpAny_bind ?_
    show wpAny _ A.in1 (updateSeq s.heap.objs.size (·.push .none) >>= fun _ => updateSeq s.heap.objs.size (·.pop)) _ _ _
    refine wpAny_bind (wpAny_updateSeq hS₁ rfl ?_)
    have hS₂ := Heap.get?_update_self (Obj.mapSeq (·.push Value.none)) hS₁ rfl
    refine wpAny_updateSeq hS₂ rfl ?_
    have hS₃ := Heap.get?_update_self (Obj.mapSeq (·.pop)) hS₂ rfl
    refine wpAny_pure ⟨plainId_quiet F.plain_extend_loop _, codeAny_extend_loopS W hz _ hSf _ items.size 0 _ _ _ rfl (Nat.zero_le _)
      ⟨Nat.zero_le _, (show IsRv _ I t ((items.size : Int) - 1 - ((0 : Nat) : Int)) from by
        rw [show (items.size : Int) - 1 - ((0 : Nat) : Int) = (items.size : Int) - 1 from by omega]
        exact hit₁.at fun o e => oth I o (Ne.symm hSI) e), IsTup.at' hst₁.2.2 fun o e => oth t o (fun h => hSf (h ▸ by simp)) e⟩ hS₃ (ItemsOf.nil _) fun s' acc' c' hm hS' hacc => ?_⟩
    show wpAny _ A (load s.heap.objs.size >>= _) _ _ s'
    refine wpAny_bind (wpAny_load hS' ?_)
    refine wpAny_pure (hQ s' acc' (Moved.drop_new (o := { cls := .type "list", data := .seq ([] : List Value).toArray }) (tk := tk) (Moved.trans W.gtrans ((Moved.refl (G := fun a b => b = a) (fun _ => rfl)).then_heap (Nat.le_refl _) fun b o hb e => ?_) hm) htk) hacc)
    exact oth b o (fun h => hb (h ▸ List.mem_cons_self)) e
end
end Mine
end

section
set_option maxRecDepth 100000
namespace Mine
open PySem

section
variable {prog : Program} {w : World} {A : Around} {E : Value → Shared → Prop} {s : Shared}
theorem rv_tuple_new {I t : Addr} {items : Array Value} {Q₁ : Value → Shared → Prop} (hh : A.handled = none) (hne : t ≠ I) (hz : items.size ≤ sizeLine) (hit : IsRv s.heap I t ((items.size : Int) - 1)) (hl : PyProof.Rows.IsTup s.heap t items)
    (h : ∀ s' acc, Moved [I] (fun a b => b = a) s s' → ItemsOf (fun i v => items[items.size - 1 - i]? = some v) acc items.size → Q₁ (.ref s'.heap.objs.size) { s' with heap := s'.heap.push { cls := .type "tuple", data := .seq acc } }) :
    codeAny (model prog w) A (.call (.builtin "tuple.__new__") ⟨[.type "tuple", .ref I], []⟩) (wants Q₁ E) s := by
  refine codeAny_of_tree ?_
  show wpAny _ A.in1 (do checkBuiltinCall "tuple.__new__" ⟨[.type "tuple", .ref I], []⟩; again (.builtin "tuple.__new__" ⟨[.type "tuple", .ref I], []⟩)) _ _ s
  refine wpAny_bind (wpAny_of_eq (F.newCall_tuple_1 _) (wpAny_pure ⟨plainId_quiet F.plain_tuple_new _, codeAny_builtin F.entry_tuple_new ?_⟩))
  rw [Around.under_plainId F.plain_tuple_new _]
  have hsub := sub_tuple_self
  have hinit := init_tuple_lookup
  have hmh := madeHere_tuple
  have hTI := hit.typeIs
  wp_walk using wpAny_typeOf hTI, rv_collect (A := A.in1) hh hne hz hit hl
  intro s' acc hm hacc
  show wpAny _ _ (Builtin.Tuple.tupleExact acc.toList.toArray >>= fun v => PySem.ret v) _ _ _
  unfold Builtin.Tuple.tupleExact
  refine wpAny_bind (wpAny_newObj_type ?_ (by show acc.toList.toArray.size ≤ sizeLine; simp only [Array.toArray_toList]; rw [hacc.1]; exact hz))
  refine wpAny_pure ?_
  have e : acc.toList.toArray = acc := by simp
  rw [e]
  exact h s' acc hm hacc
theorem rv_tuple {I t : Addr} {items : Array Value} {Q : Value → Shared → Prop} (hh : A.handled = none) (hne : t ≠ I) (hz : items.size ≤ sizeLine) (hit : IsRv s.heap I t ((items.size : Int) - 1)) (hl : PyProof.Rows.IsTup s.heap t items)
    (h : ∀ s' acc, Moved [I] (fun a b => b = a) s s' → ItemsOf (fun i v => items[items.size - 1 - i]? = some v) acc items.size → Q (.ref s'.heap.objs.size) { s' with heap := s'.heap.push { cls := .type "tuple", data := .seq acc } }) :
    wpAny (model prog w) A (call (.type "tuple") [.ref I]) Q E s := by
  refine callType_codes (Q₁ := fun obj s₁ => s₁.TypeIs obj "tuple" ∧ Q obj s₁) F.called_tuple (F.typeCall_tuple_1 _) F.entry_object_init
    (rv_tuple_new (A := A.in1) hh hne hz hit hl fun s' acc hm hacc => ⟨⟨_, Heap.get?_push_size _ rfl, rfl⟩, h s' acc hm hacc⟩) fun obj s₁ h₁ => ?_
  exact ⟨h₁.1, F.args_object_init_2 obj _, object_init_meets F.called_tuple.init.lookup F.called_tuple.made (by decide) prog w A.in1 _ s₁ ⟨h₁.1, rfl, h₁.2⟩⟩
theorem items_rev {items acc : Array Value} (h : ItemsOf (fun i v => items[items.size - 1 - i]? = some v) acc items.size) : acc.toList = items.toList.reverse := by
  obtain ⟨h1, h2⟩ := h
  refine List.ext_getElem? fun i => ?_
  by_cases hi : i < items.size
  · rw [List.getElem?_reverse (by simpa using hi)]
    have ha : i < acc.size := by omega
    have e : acc[i]? = some acc[i] := Array.getElem?_eq_getElem ha
    have := h2 i _ e
    rw [Array.getElem?_toList, e, Array.getElem?_toList, ← this]
    simp
  · rw [List.getElem?_eq_none (by simp; omega), List.getElem?_eq_none (by simp; omega)]
end
section
variable {G : Glo} {fs : List Env} {A : Around} {H : Hid} {S : Store} {s : Shared} {n : Nat}
theorem rev_sound : RevSound := by
  intro G fs A n H S s v ds X I r
  obtain ⟨t, vs, m, rfl, e, hz, rs⟩ := r.tup_inv
  have ht : PyProof.Rows.IsTup s.heap t vs := Rd.isTup e
  have hz63 : (vs.size : Int) < 2 ^ 63 := line63 hz
  refine rv_call ht hz63 fun tk => ?_
  have hlt := Heap.lt_size e
  have hI : IsRv (s.heap.push (rvO t ((vs.size : Int) - 1))) s.heap.objs.size t ((vs.size : Int) - 1) := ⟨_, Heap.get?_push_size _ rfl, rfl, rfl⟩
  refine wpAny_size (rv_tuple (s := { s with heap := s.heap.push (rvO t ((vs.size : Int) - 1)), toks := tk }) X.handled (Nat.ne_of_lt hlt) hz hI (Rd.isTup (Heap.get?_push_of_some _ e)) fun s' acc hm hacc => ?_)
  intro hsz
  obtain ⟨h', g', d', tk', os'⟩ := s'
  have eg : g' = s.gens := hm.gens
  have ed : d' = s.drawn := hm.drawn
  have eo : os' = s.os := hm.os
  subst eg ed eo
  have kk : ∀ b o, s.heap.get? b = some o → h'.get? b = some o := fun b o eb => hm.heap b o (by simp only [List.mem_singleton]; exact Nat.ne_of_lt (Heap.lt_size eb)) (Heap.get?_push_of_some _ eb)
  have hle : s.heap.objs.size ≤ h'.objs.size := by
    have h1 : (s.heap.push (rvO t ((vs.size : Int) - 1))).objs.size ≤ (h'.push { cls := .type "tuple", data := .seq acc }).objs.size := hsz
    rw [Heap.size_push, Heap.size_push] at h1
    omega
  have rr : RdAll G.P H s.heap acc.toList ds.reverse := by rw [items_rev hacc]; exact rs.reverse
  refine newTupleAt (tk := tk') (c := 0) I rr (by rw [Array.length_toList, hacc.1]; exact hz) (fun b o e => Heap.get?_push_of_some _ (kk b o e)) (Nat.le_trans hle (size_push_le _ _)) ?_ (by simpa using Heap.get?_push_size h' rfl)
  cases hq : s.heap.get? h'.objs.size with
  | none => rfl
  | some o => exact absurd (Heap.lt_size (kk _ _ hq)) (Nat.lt_irrefl _)
end
end Mine
end

section
set_option maxRecDepth 100000
namespace Mine
open PySem

/-- an iterator over ds, made at h₀ -/
structure Itr (G : Glo) (H : Hid) (h₀ h₁ : Heap) (I : Addr) (ds : List D) (fp : List Addr) (P : Nat → Value → Prop) (St : Nat → Heap → Prop) : Prop where
  walks : ∀ A : Around, A.handled = none → Walks G.prog G.w A I fp [I] ds.length P St
  fp : ∀ b ∈ fp, b = I ∨ (b ∉ H.ρ ∧ b ∉ H.fr ∧ ∃ o, h₀.get? b = some o)
  item : ∀ i v, P i v → ∃ d, ds[i]? = some d ∧ Rd G.P H h₀ v d
  live : ∀ i h, St i h → ∃ o, h.get? I = some o ∧ plainO o = true
  start : St 0 h₁
  len : ds.length ≤ sizeLine

section
variable {G : Glo} {fs : List Env} {A : Around} {H : Hid} {S : Store} {s : Shared} {n : Nat}

theorem plainO_of {o : Obj} {vs : Array Value} (h : o.data = .fields vs) : plainO o = true := by unfold plainO; rw [h]

theorem RdAll.at {P : Params} {h : Heap} {vs : List Value} {ds : List D} (r : RdAll P H h vs ds) {i : Nat} {v : Value} (e : vs[i]? = some v) : ∃ d, ds[i]? = some d ∧ Rd P H h v d := by
  have hi : i < ds.length := by rw [← r.length]; exact (List.getElem?_eq_some_iff.mp e).1
  obtain ⟨v', e1, e2⟩ := r.get (List.getElem?_eq_getElem hi)
  rw [e] at e1; cases e1
  exact ⟨_, List.getElem?_eq_getElem hi, e2⟩

theorem iter_ok {v : Value} {d : D} {ds : List D} (r : Rd G.P H s.heap v d) (e : itemsOf d = some ds) {E : Value → Shared → Prop} {Q : Value → Shared → Prop}
    (hQ : ∀ o fp P St, Itr G H s.heap (s.heap.push o) s.heap.objs.size ds fp P St → Q (.ref s.heap.objs.size) { s with heap := s.heap.push o }) : wpAny G.M A (pyIter v) Q E s := by
  cases r with
  | @tuple ax vs m _ a b c l q =>
    cases e
    have hne := Nat.ne_of_lt (Heap.lt_size c)
    have hl : ds.length = vs.size := by rw [← q.length]; simp
    refine wpAny_pyIter_tuple ⟨_, c, rfl, _, rfl⟩ (hQ _ [s.heap.objs.size, ax] (fun i v => vs[i]? = some v) (fun i h => h.IsTupleIter s.heap.objs.size ax i ∧ h.IsTuple ax vs) ⟨fun A' hA => ?_, ?_, ?_, ?_, ?_, ?_⟩)
    · rw [hl]; exact Walks.tuple hA _ _ hne _
    · intro b' hb
      simp only [List.mem_cons, List.not_mem_nil, or_false] at hb
      rcases hb with rfl | rfl
      · exact .inl rfl
      · exact .inr ⟨a, b, _, c⟩
    · intro i v hv
      exact q.at (by rw [Array.getElem?_toList]; exact hv)
    · intro i h st
      obtain ⟨o, e, _, e'⟩ := st.1
      exact ⟨o, e, plainO_of e'⟩
    · exact ⟨⟨_, Heap.get?_push_size _ rfl, rfl, rfl⟩, _, Heap.get?_push_of_some _ c, rfl, _, rfl⟩
    · rw [hl]; exact l
  | @list ax vs m _ a b c l q =>
    cases e
    have hne := Nat.ne_of_lt (Heap.lt_size c)
    have hl : ds.length = vs.size := by rw [← q.length]; simp
    refine wpAny_pyIter_list (Rd.isList c) (hQ _ [s.heap.objs.size, ax] (fun i v => vs[i]? = some v) (fun i h => h.IsListIter s.heap.objs.size ax i ∧ h.IsList ax vs) ⟨fun A' hA => ?_, ?_, ?_, ?_, ?_, ?_⟩)
    · rw [hl]; exact Walks.list hA _ _ hne _
    · intro b' hb
      simp only [List.mem_cons, List.not_mem_nil, or_false] at hb
      rcases hb with rfl | rfl
      · exact .inl rfl
      · exact .inr ⟨a, b, _, c⟩
    · intro i v hv
      exact q.at (by rw [Array.getElem?_toList]; exact hv)
    · intro i h st
      obtain ⟨o, e, _, e'⟩ := st.1
      exact ⟨o, e, plainO_of e'⟩
    · exact ⟨⟨_, Heap.get?_push_size _ rfl, rfl, rfl⟩, Rd.isList (Heap.get?_push_of_some _ c)⟩
    · rw [hl]; exact l
  | @range ra i j t u v a b c =>
    have e' : (if (decide (-1000000000 ≤ i) && decide (i ≤ 1000000000) && decide (-1000000000 ≤ j) && decide (j - i ≤ 16777216)) = true then some (rangeL i j) else none) = some ds := e
    split at e'
    · rename_i hc
      cases e'
      simp only [Bool.and_eq_true, decide_eq_true_eq] at hc
      obtain ⟨⟨⟨h1, h2⟩, h4⟩, h3⟩ := hc
      have hsz := rangeSize_one i j
      have hsm : Builtin.Range.small i j 1 = true := small_one (by omega) (by omega) (by omega) (by omega)
      have hn : (((j - i).toNat : Nat) : Int) = if i < j then j - i else 0 := by
        split <;> omega
      have hlen : (rangeL i j).length = (j - i).toNat := by simp [rangeL]
      refine wpAny_pyIter_range c hsm (hQ _ [s.heap.objs.size] (fun k v => k < (j - i).toNat ∧ ∃ t, v = .int (i + k * 1) t) (fun k h => IsRangeIter h s.heap.objs.size (i + (k : Nat) * 1) (((j - i).toNat : Int) - (k : Nat)) 1) ⟨fun A' hA => ?_, ?_, ?_, ?_, ?_, ?_⟩)
      · rw [hlen]
        have W := Walks.range (prog := G.prog) (w := G.w) hA s.heap.objs.size i 1 (j - i).toNat
        exact ⟨W.sub, W.frame, fun k s Q E hk st hQ => W.item k s Q E hk st fun v h' tk p => hQ v h' tk ⟨hk, p⟩, W.done, W.self⟩
      · intro b' hb
        simp only [List.mem_cons, List.not_mem_nil, or_false] at hb
        exact .inl hb
      · rintro k v ⟨hk, t', rfl⟩
        refine ⟨.int (i + k * 1), ?_, .int _ _⟩
        unfold rangeL
        rw [List.getElem?_map, List.getElem?_range hk]
        simp
      · intro i h st
        exact ⟨_, st, rfl⟩
      · rw [hsz, ← hn]
        have z1 : i + ((0 : Nat) : Int) * 1 = i := by omega
        have z2 : (((j - i).toNat : Nat) : Int) - ((0 : Nat) : Int) = ((j - i).toNat : Int) := by omega
        rw [z1, z2]
        exact Heap.get?_push_size _ rfl
      · rw [hlen]; have : sizeLine = 16777216 := by decide
        omega
    · cases e'
  | _ => cases e
end
end Mine
end

section
set_option maxRecDepth 100000
namespace Mine
open PySem

noncomputable abbrev xs (env : Env) : List Addr := env.locals :: env.cells.map (·.2)

section
variable {G : Glo} {fs : List Env} {A : Around} {H : Hid} {S : Store} {s : Shared} {n : Nat} {env : Env} {sc : Scope} {σ : Sg}

theorem PE.no (_K : G.Ok) {α : Type} {h : Heap} {r : Out α} {e : Value} {s' : Shared} (p : PE G fs H h r e s') : False := p

/-- no exception comes: the end alone -/
theorem Wp.go (K : G.Ok) {α' α : Type} {R : Hid → Heap → α' → α → Prop} {t : Sem α'} {m : EM α} {Q : α' → Shared → Prop} {E : Value → Shared → Prop} (h : Wp G fs A R H S s t m) (hne : m S ≠ .stuck)
    (hQ : ∀ v a H1 S1 s1, m S = .ok a S1 → Ext [] H s.heap H1 s1.heap → Inv G fs H1 S1 s1 → R H1 s1.heap v a → Q v s1) : wpAny G.M A t Q E s :=
  wpAny_mono (h hne) (fun v s1 p => by obtain ⟨a, S1, H1, e1, x, i, r⟩ := p; exact hQ v a H1 S1 s1 e1 x i r) fun _ _ p => (PE.no K p).elim

theorem bnd_inv {α β : Type} {m : EM α} {f : α → EM β} (h : bnd m f S ≠ .stuck) : m S ≠ .stuck := fun q => h (by unfold bnd; rw [q])
theorem bnd_at {α β : Type} {m : EM α} {f : α → EM β} {a : α} {S1 : Store} (h : m S = .ok a S1) : bnd m f S = f a S1 := by unfold bnd; rw [h]

/-- the same, in front of a next step -/
theorem Wp.then (K : G.Ok) {α' α β : Type} {R : Hid → Heap → α' → α → Prop} {t : Sem α'} {m : EM α} {f : α → EM β} {Q : α' → Shared → Prop} {E : Value → Shared → Prop} (h : Wp G fs A R H S s t m) (hne : bnd m f S ≠ .stuck)
    (hQ : ∀ v a H1 S1 s1, m S = .ok a S1 → bnd m f S = f a S1 → f a S1 ≠ .stuck → Ext [] H s.heap H1 s1.heap → Inv G fs H1 S1 s1 → R H1 s1.heap v a → Q v s1) : wpAny G.M A t Q E s :=
  h.go K (bnd_inv hne) fun v a H1 S1 s1 e x i r => hQ v a H1 S1 s1 e (bnd_at e) (by rw [← bnd_at (f := f) e]; exact hne) x i r

theorem const_rd {v : Value} {d : D} (I : Inv G fs H S s) (r : Rd G.P ⟨[], []⟩ G.B.heap v d) : Rd G.P H s.heap v d :=
  Rd.ext (H := ⟨[], []⟩) (fun b o _ _ e => ⟨fun q => (by rw [I.newS b q] at e; cases e), fun q => (by rw [I.newF b q] at e; cases e), I.stays b o e⟩) (fun n a e => by simp at e) r

theorem name_ok (K : G.Ok) (I : Inv G fs H S s) (V : EnvOk G H s.heap env sc σ) (x : Str) (pos : Pos) : Wp G fs A (RR G) H S s (eval (.Name x pos) env) (nameD G.C sc σ x) := by
  intro hne
  unfold nameD at hne ⊢
  by_cases hd : (x == ("__debug__" : Str)) = true
  · rw [if_pos hd] at hne; exact absurd rfl hne
  · rw [if_neg hd] at hne ⊢
    have hd' : (x == ("__debug__" : Str)) = false := by simpa using hd
    have hk : env.scope.kind = .function := by rw [V.scope]; exact V.kind
    cases hs : slot sc.names x with
    | none => rw [hs] at hne; exact absurd rfl hne
    | some p =>
      obtain ⟨i, k⟩ := p
      rw [hs] at hne
      cases k with
      | «local» =>
        dsimp only at hne ⊢
        unfold lk at hne ⊢
        cases hi : σ[i]? with
        | none => rw [hi] at hne; exact absurd rfl hne
        | some o =>
          rw [hi] at hne
          cases o with
          | none => exact absurd rfl hne
          | some d =>
            obtain ⟨m, hn, hm⟩ := V.ns
            obtain ⟨v, e1, e2⟩ := hm x i d hs hi
            exact wpAny_Name (wpAny_loadName_local hk (V.kindOf hs) hn e1 ⟨_, S, H, rfl, Ext.refl, I, e2⟩) hd'
      | cell =>
        dsimp only at hne ⊢
        unfold lk at hne ⊢
        cases hi : σ[i]? with
        | none => rw [hi] at hne; exact absurd rfl hne
        | some o =>
          rw [hi] at hne
          cases o with
          | none => exact absurd rfl hne
          | some d =>
            obtain ⟨c, e1, e2, e3, v?, e4, e5⟩ := V.cells x i hs
            obtain ⟨v, rfl, e6⟩ := e5 d hi
            exact wpAny_Name (wpAny_loadName_cell hk (V.kindOf hs) e1 e4 ⟨_, S, H, rfl, Ext.refl, I, e6⟩) hd'
      | globalImplicit =>
        dsimp only at hne ⊢
        cases hc : G.C.consts.lookup x with
        | none => rw [hc] at hne; exact absurd rfl hne
        | some d =>
          obtain ⟨v, e1, e2⟩ := K.const x d hc
          refine Calls.Name_function_global hk (V.kindOf hs) (Calls.loadGlobal_global (mg := G.mg) ?_ e1 ⟨_, S, H, rfl, Ext.refl, I, const_rd I e2⟩) hd'
          rw [V.glob]; exact K.g.keeps I.stays
      | _ => exact absurd rfl hne

theorem glob_inv {x : Str} (h : isGlobal sc x = true) : (x == ("__debug__" : Str)) = false ∧ ∃ i, slot sc.names x = some (i, .globalImplicit) := by
  unfold isGlobal at h
  by_cases hd : (x == ("__debug__" : Str)) = true
  · rw [if_pos hd] at h; cases h
  · rw [if_neg hd] at h
    refine ⟨by simpa using hd, ?_⟩
    split at h
    · rename_i i hs; exact ⟨i, hs⟩
    · cases h

theorem fname_ok (K : G.Ok) (I : Inv G fs H S s) (V : EnvOk G H s.heap env sc σ) {x : Str} {pos : Pos} {v : Value} (h : isGlobal sc x = true) (hv : G.mg x = some v) {Q : Value → Shared → Prop} {E : Value → Shared → Prop} (hQ : Q v s) :
    wpAny G.M A (eval (.Name x pos) env) Q E s := by
  obtain ⟨hd, i, hs⟩ := glob_inv h
  have hk : env.scope.kind = .function := by rw [V.scope]; exact V.kind
  refine Calls.Name_function_global hk (V.kindOf hs) (Calls.loadGlobal_global (mg := G.mg) ?_ hv hQ) hd
  rw [V.glob]; exact K.g.keeps I.stays

theorem bname_ok (K : G.Ok) (I : Inv G fs H S s) (V : EnvOk G H s.heap env sc σ) {x : Str} {pos : Pos} {v : Value} (h : isGlobal sc x = true) (hx : x ∈ biNames) (hv : bootBuiltins x = some v) (hn : x ≠ "__name__") {Q : Value → Shared → Prop} {E : Value → Shared → Prop} (hQ : Q v s) :
    wpAny G.M A (eval (.Name x pos) env) Q E s := by
  obtain ⟨hd, i, hs⟩ := glob_inv h
  have hk : env.scope.kind = .function := by rw [V.scope]; exact V.kind
  refine Calls.Name_function_global hk (V.kindOf hs) (Calls.loadGlobal_builtin (mg := G.mg) (mb := G.mb) ?_ (K.miss x hx) ?_ ((K.builtins x hn).trans hv) hQ) hd
  · rw [V.glob]; exact K.g.keeps I.stays
  · rw [V.bi]; exact K.b.keeps I.stays

/-- one thing that lies apart is changed -/
theorem Inv.setF {a : Addr} {h' : Heap} {tk : Nat} (I : Inv G fs H S s) (ha : a ∈ H.fr) (hk : ∀ b o, b ≠ a → s.heap.get? b = some o → h'.get? b = some o) (hs : s.heap.objs.size ≤ h'.objs.size)
    (hl : ∃ o, h'.get? a = some o ∧ (plainO o = false ∨ ∀ env ∈ fs, env.frame ≠ some a)) : Inv G fs H S { s with heap := h', toks := tk } ∧ Ext [a] H s.heap H h' := by
  have x : Ext [a] H s.heap H h' := ⟨rfl, ⟨[], by simp, by simp⟩, fun b o _ h2 e => hk b o (fun q => h2 (q ▸ ha)) e, fun b o _ h3 e => ⟨o.slots, hk b o (fun q => h3 (by simp [q])) e, fun _ => rfl⟩, hs⟩
  refine ⟨⟨fun b o e => hk b o (fun q => ?_) (I.stays b o e), I.newS, I.newF, I.off, fun b hb => ?_, I.nodup, I.len, fun m o e => ?_, ?_, I.gens, I.os⟩, x⟩
  · rw [q, I.newF a ha] at e; cases e
  · by_cases hb' : b = a
    · subst hb'; obtain ⟨o, e, _⟩ := hl; exact ⟨o, e⟩
    · obtain ⟨o, e⟩ := I.liveF b hb; exact ⟨o, hk b o hb' e⟩
  · obtain ⟨b, e1, e2⟩ := I.objs m o e
    exact ⟨b, e1, e2.step x fun ob q => hk b _ (fun q => I.off b (List.mem_of_getElem? e1) (q ▸ ha)) q⟩
  · intro env he
    obtain ⟨a1, L, o, a2, a3, a4, a5⟩ := I.fa env he
    by_cases hL : L = a
    · subst hL
      obtain ⟨o', e', q⟩ := hl
      refine ⟨a1, L, o', a2, a3, e', ?_⟩
      rcases q with q | q
      · exact q
      · exact absurd a2 (q env he)
    · exact ⟨a1, L, o, a2, a3, hk L o hL a4, a5⟩

theorem lookup_mem {c : Addr} {x : Str} : ∀ {l : List (Str × Addr)}, l.lookup x = some c → c ∈ l.map (·.2)
  | [], h => by cases h
  | p :: l, h => by
    rw [List.lookup_cons] at h
    split at h
    · cases h; simp
    · simp only [List.map_cons, List.mem_cons]; exact .inr (lookup_mem h)

theorem put_get {i j : Nat} {d e : D} (h : (put σ i d)[j]? = some (some e)) : (j = i ∧ e = d) ∨ (j ≠ i ∧ σ[j]? = some (some e)) := by
  unfold put at h
  by_cases hj : j = i
  · subst hj
    rw [List.getElem?_set] at h
    simp only [if_true] at h
    split at h
    · left; refine ⟨rfl, ?_⟩; simpa using h.symm
    · cases h
  · right; exact ⟨hj, by rwa [List.getElem?_set_ne (Ne.symm hj)] at h⟩

theorem put_ok (I : Inv G fs H S s) (V : EnvOk G H s.heap env sc σ) {x : Str} {v : Value} {d : D} {σ' : Sg} (r : Rd G.P H s.heap v d) (e : putName sc σ x d = some σ') {Q : Unit → Shared → Prop} {E : Value → Shared → Prop}
    (hQ : ∀ h' tk, Ext (xs env) H s.heap H h' → Inv G fs H S { s with heap := h', toks := tk } → EnvOk G H h' env sc σ' → Q () { s with heap := h', toks := tk }) : wpAny G.M A (storeName env x v) Q E s := by
  have hk : env.scope.kind = .function := by rw [V.scope]; exact V.kind
  unfold putName at e
  split at e
  · rename_i i hs
    cases e
    obtain ⟨m, hn, hm⟩ := V.ns
    refine wpAny_storeName_local (V.kindOf hs) hn (fun h' hn' hs' => ?_) (by rw [hk]; rfl)
    obtain ⟨J, x'⟩ := I.setF (tk := s.toks + 1) V.inF (fun b o hb e => (hs'.2 b hb).trans e) (Nat.le_of_eq hs'.1.symm) (by
      obtain ⟨o, es, ep, q1, q2, _⟩ := hn'
      exact ⟨o, q1, .inl (by unfold plainO; rw [q2])⟩)
    refine hQ h' _ (x'.mono (by simp)) J ⟨V.scope, V.kind, V.glob, V.bi, V.inF, ⟨_, hn', fun y j e q1 q2 => ?_⟩, fun y j q => ?_, V.cin, V.inj⟩
    · rcases put_get q2 with ⟨rfl, rfl⟩ | ⟨hj, q2⟩
      · obtain rfl := slot_inj hs q1
        exact ⟨v, by simp, r.step x'⟩
      · have hy : y ≠ x := fun q => hj (by rw [q, hs] at q1; cases q1; rfl)
        obtain ⟨u, q3, q4⟩ := hm y j e q1 q2
        exact ⟨u, by simp [hy, q3], q4.step x'⟩
    · obtain ⟨c, e1, e2, e3, v?, e4, e5⟩ := V.cells y j q
      refine ⟨c, e1, e2, e3, v?, e4.sameBut hs' e3, fun e q2 => ?_⟩
      rcases put_get q2 with ⟨rfl, rfl⟩ | ⟨hj, q2⟩
      · obtain rfl := slot_inj hs q
        rw [hs] at q; cases q
      · obtain ⟨u, q3, q4⟩ := e5 e q2
        exact ⟨u, q3, q4.step x'⟩
  · rename_i i hs
    cases e
    obtain ⟨c, e1, e2, e3, v?, e4, e5⟩ := V.cells x i hs
    refine wpAny_storeName_cell hk (V.kindOf hs) e1 e4 fun h' hc' hs' => ?_
    obtain ⟨J, x'⟩ := I.setF (tk := s.toks) e2 (fun b o hb e => (hs'.2 b hb).trans e) (Nat.le_of_eq hs'.1.symm) (by
      obtain ⟨o, q1, q2⟩ := hc'
      refine ⟨o, q1, .inr fun env he q => ?_⟩
      obtain ⟨o', q3, q4⟩ := e4
      obtain ⟨_, L, o'', f1, f2, f3, f4⟩ := I.fa env he
      rw [q] at f1; cases f1
      rw [q3] at f3; cases f3
      unfold plainO at f4; rw [q4] at f4; cases f4)
    have hmem : c ∈ env.cells.map (·.2) := lookup_mem e1
    obtain ⟨m, hn, hm⟩ := V.ns
    refine hQ h' _ (x'.mono (by intro b hb; simp only [List.mem_singleton] at hb; subst hb; exact List.mem_cons_of_mem _ hmem)) J
      ⟨V.scope, V.kind, V.glob, V.bi, V.inF, ⟨m, hn.sameBut hs' (Ne.symm e3), fun y j e q1 q2 => ?_⟩, fun y j q => ?_, V.cin, V.inj⟩
    · rcases put_get q2 with ⟨rfl, rfl⟩ | ⟨hj, q2⟩
      · obtain rfl := slot_inj hs q1
        rw [hs] at q1; cases q1
      · obtain ⟨u, q3, q4⟩ := hm y j e q1 q2
        exact ⟨u, q3, q4.step x'⟩
    · by_cases hy : y = x
      · subst hy
        rw [hs] at q; cases q
        refine ⟨c, e1, e2, e3, some v, hc', fun e q2 => ?_⟩
        rcases put_get q2 with ⟨_, rfl⟩ | ⟨hj, q2⟩
        · exact ⟨v, rfl, r.step x'⟩
        · exact absurd rfl hj
      · obtain ⟨c', f1, f2, f3, w?, f4, f5⟩ := V.cells y j q
        have hcc : c' ≠ c := fun z => hy (V.inj y x j i c q hs (z ▸ f1) e1)
        refine ⟨c', f1, f2, f3, w?, f4.sameBut hs' hcc, fun e q2 => ?_⟩
        rcases put_get q2 with ⟨rfl, rfl⟩ | ⟨hj, q2⟩
        · exact absurd (slot_inj q hs) hy
        · obtain ⟨u, q3, q4⟩ := f5 e q2
          exact ⟨u, q3, q4.step x'⟩
  · cases e

theorem EnvOk.mono {σ' : Sg} (V : EnvOk G H s.heap env sc σ') (hσ : ∀ (i : Nat) (d : D), σ[i]? = some (some d) → σ'[i]? = some (some d)) : EnvOk G H s.heap env sc σ where
  scope := V.scope
  kind := V.kind
  glob := V.glob
  bi := V.bi
  inF := V.inF
  ns := let ⟨m, h1, h2⟩ := V.ns; ⟨m, h1, fun x i d q1 q2 => h2 x i d q1 (hσ i d q2)⟩
  cells := fun x i q => let ⟨c, h1, h2, h3, v, h4, h5⟩ := V.cells x i q; ⟨c, h1, h2, h3, v, h4, fun d q => h5 d (hσ i d q)⟩
  cin := V.cin
  inj := V.inj
end
end Mine
end

section
set_option maxRecDepth 100000
namespace Mine
open PySem

section
variable {C : Cfg} {cf : Str → List D → EM D} {sc : Scope} {σ : Sg} {pos p : Pos} {k : Nat}
theorem q_all0 : evAll C cf [] sc σ = ret [] := rfl
theorem q_all1 {e : Expr} {r : List Expr} : evAll C cf (e :: r) sc σ = bnd (ev C cf e sc σ) fun d => bnd (evAll C cf r sc σ) fun ds => ret (d :: ds) := rfl
theorem q_none : ev C cf (.Constant .none k pos) sc σ = ret .none := rfl
theorem q_bool {b : Bool} : ev C cf (.Constant (.bool b) k pos) sc σ = ret (.bool b) := rfl
theorem q_int {i : Int} : ev C cf (.Constant (.int i) k pos) sc σ = ret (.int i) := rfl
theorem q_str {x : Str} : ev C cf (.Constant (.str x) k pos) sc σ = if PyData.strOk x && decide (x.length ≤ sizeLine) then ret (.str x) else stk := rfl
theorem q_bin {l r : Expr} {op : Operator} : ev C cf (.BinOp l op r pos) sc σ = bnd (ev C cf l sc σ) fun a => bnd (ev C cf r sc σ) fun b => binop C pos op a b := rfl
theorem q_un {x : Expr} {op : UnaryOp} : ev C cf (.UnaryOp op x pos) sc σ = bnd (ev C cf x sc σ) fun a => unop op a := rfl
theorem q_tup {es : List Expr} : ev C cf (.Tuple es k pos) sc σ = bnd (evAll C cf es sc σ) fun ds => if ds.length ≤ sizeLine then ret (.tuple ds) else stk := rfl
theorem q_lst {es : List Expr} : ev C cf (.List es pos) sc σ = bnd (evAll C cf es sc σ) fun ds => if ds.length ≤ sizeLine then mkList C pos ds else stk := rfl
theorem q_opt0 : evOpt C cf none sc σ = ret .none := rfl
theorem q_opt1 {e : Expr} : evOpt C cf (some e) sc σ = ev C cf e sc σ := rfl
theorem q_sub {v i : Expr} : ev C cf (.Subscript v i pos) sc σ = bnd (ev C cf v sc σ) fun a => evSub C cf i sc σ a pos (ev C cf i sc σ) := rfl
theorem q_notT {x : Expr} {w : EM D} : evT C cf (.UnaryOp .Not x pos) sc σ w = bnd (evT C cf x sc σ (ev C cf x sc σ)) fun b => ret (!b) := rfl
theorem q_boolT {op : BoolOp} {es : List Expr} {w : EM D} : evT C cf (.BoolOp op es pos) sc σ w = evTAll C cf op es sc σ := rfl
theorem q_cmpT {l : Expr} {ops : List CmpOp} {rs : List Expr} {w : EM D} : evT C cf (.Compare l ops rs pos) sc σ w = bnd (ev C cf l sc σ) fun a => evCmp C cf a ops rs sc σ := rfl
theorem q_t0 {op : BoolOp} : evTAll C cf op [] sc σ = ret (op == .And) := rfl
theorem q_tA {e : Expr} {r : List Expr} : evTAll C cf .And (e :: r) sc σ = bnd (evT C cf e sc σ (ev C cf e sc σ)) fun t => match t with
    | true => evTAll C cf .And r sc σ
    | false => ret false := rfl
theorem q_tO {e : Expr} {r : List Expr} : evTAll C cf .Or (e :: r) sc σ = bnd (evT C cf e sc σ (ev C cf e sc σ)) fun t => match t with
    | true => ret true
    | false => evTAll C cf .Or r sc σ := rfl
theorem q_cmp {l : Expr} {ops : List CmpOp} {rs : List Expr} : ev C cf (.Compare l ops rs pos) sc σ = bnd (ev C cf l sc σ) fun a => bnd (evCmp C cf a ops rs sc σ) fun b => ret (.bool b) := rfl
theorem q_boolV {op : BoolOp} {es : List Expr} : ev C cf (.BoolOp op es pos) sc σ = evBool C cf op es sc σ := rfl
theorem q_name {x : Str} : ev C cf (.Name x pos) sc σ = nameD C sc σ x := rfl
theorem q_if {t : Expr} {b o : List Stmt} : ex C cf (.If t b o pos) sc σ = bnd (evT C cf t sc σ (ev C cf t sc σ)) fun c => if c then exs C cf b sc σ else exs C cf o sc σ := rfl
end
section
variable (G : Glo) (fs : List Env) (A : Around) (cf : Str → List D → EM D)

noncomputable def EvOk (e : Expr) : Prop := ∀ {H : Hid} {S : Store} {s : Shared} {env : Env} {sc : Scope} {σ : Sg}, Inv G fs H S s → EnvOk G H s.heap env sc σ → Wp G fs A (RR G) H S s (eval e env) (ev G.C cf e sc σ)
noncomputable def AllOk (es : List Expr) : Prop := ∀ {H : Hid} {S : Store} {s : Shared} {env : Env} {sc : Scope} {σ : Sg} (pos : Pos), Inv G fs H S s → EnvOk G H s.heap env sc σ →
  Wp G fs A (RL G) H S s (spliced (backTo pos (starEach es env))) (evAll G.C cf es sc σ)
noncomputable def TOk (e : Expr) : Prop := ∀ {H : Hid} {S : Store} {s : Shared} {env : Env} {sc : Scope} {σ : Sg}, Inv G fs H S s → EnvOk G H s.heap env sc σ →
  Wp G fs A RB H S s (isTrue e env (eval e env)) (evT G.C cf e sc σ (ev G.C cf e sc σ))
noncomputable def TAllOk (es : List Expr) : Prop := ∀ {H : Hid} {S : Store} {s : Shared} {env : Env} {sc : Scope} {σ : Sg} (op : BoolOp), Inv G fs H S s → EnvOk G H s.heap env sc σ →
  Wp G fs A RB H S s (allTrue op es env) (evTAll G.C cf op es sc σ)
noncomputable def TestsOk (es : List Expr) : Prop := ∀ {H : Hid} {S : Store} {s : Shared} {env : Env} {sc : Scope} {σ : Sg}, Inv G fs H S s → EnvOk G H s.heap env sc σ →
  Wp G fs A RB H S s (forIn es true fun c r => if r = true then do let ok ← isTrue c env (eval c env); pure (ForInStep.yield ok) else pure (ForInStep.yield r)) (evTAll G.C cf .And es sc σ)
noncomputable def CmpOk (es : List Expr) : Prop := ∀ {H : Hid} {S : Store} {s : Shared} {env : Env} {sc : Scope} {σ : Sg} (pos : Pos) (ops : List CmpOp) {v : Value} {a : D}, Inv G fs H S s → EnvOk G H s.heap env sc σ → Rd G.P H s.heap v a →
  Wp G fs A RV H S s (compareChain pos v ops (markedEach ops es (evalEach es env))) (evCmp G.C cf a ops es sc σ)
noncomputable def ChainOk (es : List Expr) : Prop := ∀ {H : Hid} {S : Store} {s : Shared} {env : Env} {sc : Scope} {σ : Sg} (pos : Pos) (ops : List CmpOp) {v : Value} {a : D}, Inv G fs H S s → EnvOk G H s.heap env sc σ → Rd G.P H s.heap v a →
  Wp G fs A RB H S s (testChain pos v ops (markedEach ops es (evalEach es env))) (evCmp G.C cf a ops es sc σ)
noncomputable def BoolsOk (es : List Expr) : Prop := ∀ {H : Hid} {S : Store} {s : Shared} {env : Env} {sc : Scope} {σ : Sg} (pos : Pos) (op : BoolOp), Inv G fs H S s → EnvOk G H s.heap env sc σ →
  Wp G fs A (RR G) H S s (boolOp pos op (evalEach es env)) (evBool G.C cf op es sc σ)
noncomputable def OptOk (e : Option Expr) : Prop := ∀ {H : Hid} {S : Store} {s : Shared} {env : Env} {sc : Scope} {σ : Sg}, Inv G fs H S s → EnvOk G H s.heap env sc σ → Wp G fs A (RR G) H S s (evalPart e env) (evOpt G.C cf e sc σ)

/-- the program's own functions, called from where r is left -/
noncomputable def CfOk (r : Nat) : Prop := ∀ {fs : List Env} {A : Around} {H : Hid} {S : Store} {s : Shared} {f : Str} {fn : Fn} {a : Addr} {vs : List Value} {ds : List D}, Cxt G fs A r → Inv G fs H S s → G.C.fns.lookup f = some fn → G.mg f = some (.ref a) →
  RdAll G.P H s.heap vs ds → cf f ds S ≠ .stuck → wpAny G.M A (call (.ref a) vs) (PV G fs (RR G) H s.heap (cf f ds S)) (PX G fs [] H s.heap (cf f ds S)) s
end

section
variable {G : Glo} {fs : List Env} {A : Around} {cf : Str → List D → EM D} {r : Nat} {H : Hid} {S : Store} {s : Shared}

theorem star_cons {e : Expr} (h : ∀ e' p, e ≠ .Starred e' p) (l : List Expr) (env : Env) : starEach (e :: l) env = (false, eval e env) :: starEach l env := by
  cases e <;> first | rfl | exact absurd rfl (h _ _)
theorem notStar {α : Type} {C : Cfg} {e : Expr} {sc : Scope} {σ : Sg} {f : D → EM α} (h : bnd (ev C cf e sc σ) f S ≠ .stuck) : ∀ e' p, e ≠ .Starred e' p := by
  rintro e' p rfl
  exact h rfl
theorem notSet {α : Type} {C : Cfg} {e : Expr} {sc : Scope} {σ : Sg} {f : D → EM α} (h : bnd (ev C cf e sc σ) f S ≠ .stuck) (op : CmpOp) : behindInMarks op e = false := by
  cases e <;> first | rfl | exact absurd rfl h
theorem folded {C : Cfg} {e : Expr} {sc : Scope} {σ : Sg} {α : Type} {f : D → EM α} (h : bnd (ev C cf e sc σ) f S ≠ .stuck) (env : Env) (x : Value) : foldedSetIterable e env x = pure x := by
  cases e <;> first | rfl | exact absurd rfl h

theorem all_nil : AllOk G fs A cf [] := by
  intro H S s env sc σ pos I V
  rw [q_all0]
  exact fun _ => wpAny_items_nil ⟨_, S, H, rfl, Ext.refl, I, .nil⟩
theorem all_cons (K : G.Ok) {e : Expr} {l : List Expr} (he : EvOk G fs A cf e) (hl : AllOk G fs A cf l) : AllOk G fs A cf (e :: l) := by
  intro H S s env sc σ pos I V
  rw [q_all1]
  intro hne
  refine wpAny_items_cons ((he I V).then K hne fun v d H1 S1 s1 e1 q1 n1 x1 I1 r1 => ?_) (star_cons (notStar hne) l env)
  rw [q1]
  refine (hl pos I1 (V.step x1)).then K n1 fun vs ds H2 S2 s2 e2 q2 n2 x2 I2 r2 => ?_
  rw [q2]
  exact ⟨_, S2, H2, rfl, x1.trans x2, I2, .cons (r1.step x2) r2⟩

theorem const_ok (c : Const) (k : Nat) (pos : Pos) : EvOk G fs A cf (.Constant c k pos) := by
  intro H S s env sc σ I V
  cases c with
  | none => rw [q_none]; exact fun _ => wpAny_Constant_none ⟨_, S, H, rfl, Ext.refl, I, .none⟩
  | bool b => rw [q_bool]; exact fun _ => wpAny_Constant_bool ⟨_, S, H, rfl, Ext.refl, I, .bool b⟩
  | int i => rw [q_int]; exact fun _ => wpAny_Constant_int ⟨_, S, H, rfl, Ext.refl, I.toks, .int i _⟩
  | str x =>
    rw [q_str]
    intro hne
    by_cases hx : (PyData.strOk x && decide (x.length ≤ sizeLine)) = true
    · rw [if_pos hx]
      simp only [Bool.and_eq_true, decide_eq_true_eq] at hx
      exact wpAny_Constant_str ⟨_, S, H, rfl, Ext.refl, I.toks, .str x _ hx.1 hx.2⟩
    · rw [if_neg hx] at hne; exact absurd rfl hne
  | _ => exact fun h => absurd rfl h

theorem binop_arm (K : G.Ok) (X : Cxt G fs A r) {l rr : Expr} {op : Operator} {pos : Pos} (hl : EvOk G fs A cf l) (hr : EvOk G fs A cf rr) : EvOk G fs A cf (.BinOp l op rr pos) := by
  intro H S s env sc σ I V
  rw [q_bin]
  intro hne
  refine wpAny_BinOp ((hl I V).then K hne fun v d H1 S1 s1 e1 q1 n1 x1 I1 r1 => ?_)
  rw [q1]
  refine (hr I1 (V.step x1)).then K n1 fun u d2 H2 S2 s2 e2 q2 n2 x2 I2 r2 => ?_
  rw [q2]
  exact (binop_ok K X I2 (r1.step x2) r2 G.C pos op K.mul).go K n2 fun v3 d3 H3 S3 s3 e3 x3 I3 r3 => e3 ▸ ⟨_, S3, H3, rfl, (x1.trans x2).trans x3, I3, r3⟩

theorem unop_arm (K : G.Ok) {x : Expr} {op : UnaryOp} {pos : Pos} (hx : EvOk G fs A cf x) : EvOk G fs A cf (.UnaryOp op x pos) := by
  intro H S s env sc σ I V
  rw [q_un]
  intro hne
  refine wpAny_UnaryOp ((hx I V).then K hne fun v d H1 S1 s1 e1 q1 n1 x1 I1 r1 => ?_)
  rw [q1]
  exact (unop_ok I1 r1 op).go K n1 fun v3 d3 H3 S3 s3 e3 x3 I3 r3 => e3 ▸ ⟨_, S3, H3, rfl, x1.trans x3, I3, r3⟩

theorem tuple_arm (K : G.Ok) {es : List Expr} {k : Nat} {pos : Pos} (h : AllOk G fs A cf es) : EvOk G fs A cf (.Tuple es k pos) := by
  intro H S s env sc σ I V
  rw [q_tup]
  intro hne
  refine wpAny_Tuple ((h pos I V).then K hne fun vs ds H1 S1 s1 e1 q1 n1 x1 I1 r1 => ?_)
  rw [q1]
  by_cases hz : ds.length ≤ sizeLine
  · rw [if_pos hz]
    have hz' : vs.length ≤ sizeLine := by rw [r1.length]; exact hz
    exact ⟨hz', (newTuple_ok (tk := s1.toks) I1 r1 hz').trans x1⟩
  · rw [if_neg hz] at n1; exact absurd rfl n1

theorem list_arm (K : G.Ok) {es : List Expr} {pos : Pos} (h : AllOk G fs A cf es) : EvOk G fs A cf (.List es pos) := by
  intro H S s env sc σ I V
  rw [q_lst]
  intro hne
  refine wpAny_List ((h pos I V).then K hne fun vs ds H1 S1 s1 e1 q1 n1 x1 I1 r1 => ?_)
  rw [q1]
  by_cases hz : ds.length ≤ sizeLine
  · rw [if_pos hz]
    have hz' : vs.length ≤ sizeLine := by rw [r1.length]; exact hz
    exact ⟨hz', (newList_ok (tk := s1.toks) I1 r1 hz' G.C pos).trans x1⟩
  · rw [if_neg hz] at n1; exact absurd rfl n1

theorem opt_none : OptOk G fs A cf none := by
  intro H S s env sc σ I V
  rw [q_opt0]
  exact fun _ => wpAny_pure ⟨_, S, H, rfl, Ext.refl, I, .none⟩
theorem opt_some {e : Expr} (h : EvOk G fs A cf e) : OptOk G fs A cf (some e) := by
  intro H S s env sc σ I V
  rw [q_opt1]
  exact h I V

theorem slice_arm (K : G.Ok) {v : Expr} {lo hi : Option Expr} {p pos : Pos} (hv : EvOk G fs A cf v) (hl : OptOk G fs A cf lo) (hh : OptOk G fs A cf hi) : EvOk G fs A cf (.Subscript v (.Slice lo hi none p) pos) := by
  intro H S s env sc σ I V
  rw [q_sub]
  have he : ∀ a w, evSub G.C cf (.Slice lo hi none p) sc σ a pos w = bnd (evOpt G.C cf lo sc σ) fun l => bnd (evOpt G.C cf hi sc σ) fun h => sliceM G.C pos a l h := fun _ _ => rfl
  intro hne
  simp only [he] at hne ⊢
  refine PyProof.Rows.Subscript_ ((hv I V).then K hne fun v d H1 S1 s1 e1 q1 n1 x1 I1 r1 => ?_)
  rw [q1]
  refine wpAny_Slice ((hl I1 (V.step x1)).then K n1 fun vl dl H2 S2 s2 e2 q2 n2 x2 I2 r2 => ?_)
  rw [q2]
  refine (hh I2 ((V.step x1).step x2)).then K n2 fun vu du H3 S3 s3 e3 q3 n3 x3 I3 r3 => ?_
  rw [q3]
  refine wpAny_pure ?_
  exact wpAny_mono (slice_ok I3 ((r1.step x2).step x3) (r2.step x3) r3 G.C pos n3) (fun _ _ p => p.trans ((x1.trans x2).trans x3)) fun _ _ p => p.trans ((x1.trans x2).trans x3)

theorem item_arm (K : G.Ok) {v i : Expr} {pos : Pos} (hn : ∀ lo hi st p, i ≠ .Slice lo hi st p) (hv : EvOk G fs A cf v) (hi : EvOk G fs A cf i) : EvOk G fs A cf (.Subscript v i pos) := by
  intro H S s env sc σ I V
  rw [q_sub]
  have he : ∀ a w, evSub G.C cf i sc σ a pos w = bnd w fun i => itemM a i := by
    intro a w
    cases i <;> first | rfl | exact absurd rfl (hn _ _ _ _)
  intro hne
  simp only [he] at hne ⊢
  refine PyProof.Rows.Subscript_ ((hv I V).then K hne fun v d H1 S1 s1 e1 q1 n1 x1 I1 r1 => ?_)
  rw [q1]
  refine (hi I1 (V.step x1)).then K n1 fun u d2 H2 S2 s2 e2 q2 n2 x2 I2 r2 => ?_
  rw [q2]
  exact wpAny_mono (item_ok I2 (r1.step x2) r2 n2) (fun _ _ p => p.trans (x1.trans x2)) fun _ _ p => p.trans (x1.trans x2)

-- truth
theorem not_arm (K : G.Ok) {x : Expr} {pos : Pos} (h : TOk G fs A cf x) : TOk G fs A cf (.UnaryOp .Not x pos) := by
  intro H S s env sc σ I V
  rw [q_notT]
  intro hne
  refine wpAny_isTrue_Not ((h I V).then K hne fun v d H1 S1 s1 e1 q1 n1 x1 I1 r1 => ?_)
  rw [q1]
  cases r1
  exact ⟨_, S1, H1, rfl, x1, I1, rfl⟩
theorem boolT_arm {op : BoolOp} {es : List Expr} {pos : Pos} (h : TAllOk G fs A cf es) : TOk G fs A cf (.BoolOp op es pos) := by
  intro H S s env sc σ I V
  rw [q_boolT]
  exact fun hne => wpAny_isTrue_BoolOp (h op I V hne)
theorem cmpT_arm (K : G.Ok) {l : Expr} {ops : List CmpOp} {rs : List Expr} {pos : Pos} (hl : EvOk G fs A cf l) (h : ChainOk G fs A cf rs) : TOk G fs A cf (.Compare l ops rs pos) := by
  intro H S s env sc σ I V
  rw [q_cmpT]
  intro hne
  rw [arm_isTrue_Compare]
  refine wpAny_bind ((hl I V).then K hne fun v d H1 S1 s1 e1 q1 n1 x1 I1 r1 => ?_)
  rw [q1]
  exact wpAny_mono (h pos ops I1 (V.step x1) r1 n1) (fun _ _ p => p.trans x1) fun _ _ p => p.trans x1
theorem valT_arm (K : G.Ok) {e : Expr} (h1 : ∀ env whole, isTrue e env whole = (do let v ← whole; standAt e.pos; holding [v] (truthy v))) (h2 : ∀ sc σ w, evT G.C cf e sc σ w = bnd w truthM) (he : EvOk G fs A cf e) : TOk G fs A cf e := by
  intro H S s env sc σ I V
  rw [h2]
  intro hne
  refine wpAny_isTrue_value ((he I V).then K hne fun v d H1 S1 s1 e1 q1 n1 x1 I1 r1 => ?_) (h1 env _)
  rw [q1]
  exact wpAny_mono (truth_ok I1 r1 n1) (fun _ _ p => p.trans x1) fun _ _ p => p.trans x1

theorem tall_nil : TAllOk G fs A cf [] := by
  intro H S s env sc σ op I V
  rw [q_t0]
  intro _
  cases op
  · exact wpAny_allTrue_And_nil ⟨_, S, H, rfl, Ext.refl, I, rfl⟩
  · exact wpAny_allTrue_Or_nil ⟨_, S, H, rfl, Ext.refl, I, rfl⟩
theorem tall_cons (K : G.Ok) {e : Expr} {l : List Expr} (he : TOk G fs A cf e) (hl : TAllOk G fs A cf l) : TAllOk G fs A cf (e :: l) := by
  intro H S s env sc σ op I V
  cases op with
  | And =>
    rw [q_tA]
    intro hne
    refine wpAny_allTrue_And_cons ((he I V).then K hne fun v d H1 S1 s1 e1 q1 n1 x1 I1 r1 => ?_)
    rw [q1]
    cases r1
    cases v with
    | false => exact ⟨_, S1, H1, rfl, x1, I1, rfl⟩
    | true => exact wpAny_mono (hl .And I1 (V.step x1) n1) (fun _ _ p => p.trans x1) fun _ _ p => p.trans x1
  | Or =>
    rw [q_tO]
    intro hne
    refine wpAny_allTrue_Or_cons ((he I V).then K hne fun v d H1 S1 s1 e1 q1 n1 x1 I1 r1 => ?_)
    rw [q1]
    cases r1
    cases v with
    | true => exact ⟨_, S1, H1, rfl, x1, I1, rfl⟩
    | false => exact wpAny_mono (hl .Or I1 (V.step x1) n1) (fun _ _ p => p.trans x1) fun _ _ p => p.trans x1

theorem tests_false {env : Env} {Q : Bool → Shared → Prop} {E : Value → Shared → Prop} (h : Q false s) : ∀ es : List Expr, wpAny G.M A (forIn es false fun c r => if r = true then do let ok ← isTrue c env (eval c env); pure (ForInStep.yield ok) else pure (ForInStep.yield r)) Q E s
  | [] => wpAny_pure h
  | e :: es => by
    rw [List.forIn_cons]
    exact wpAny_bind (wpAny_pure (tests_false h es))
theorem tests_nil : TestsOk G fs A cf [] := by
  intro H S s env sc σ I V
  rw [q_t0]
  exact fun _ => wpAny_pure ⟨_, S, H, rfl, Ext.refl, I, rfl⟩
theorem tests_cons (K : G.Ok) {e : Expr} {l : List Expr} (he : TOk G fs A cf e) (hl : TestsOk G fs A cf l) : TestsOk G fs A cf (e :: l) := by
  intro H S s env sc σ I V
  rw [q_tA]
  intro hne
  rw [List.forIn_cons]
  refine wpAny_bind (wpAny_bind ((he I V).then K hne fun v d H1 S1 s1 e1 q1 n1 x1 I1 r1 => ?_))
  rw [q1]
  cases r1
  refine wpAny_pure ?_
  cases v with
  | false => exact tests_false ⟨_, S1, H1, rfl, x1, I1, rfl⟩ l
  | true => exact wpAny_mono (hl I1 (V.step x1) n1) (fun _ _ p => p.trans x1) fun _ _ p => p.trans x1
end
end Mine
end

section
set_option maxRecDepth 100000
namespace Mine
open PySem

section
variable {G : Glo} {fs : List Env} {A : Around} {cf : Str → List D → EM D} {H : Hid} {S : Store} {s : Shared} {env : Env} {sc : Scope} {σ : Sg}

mutual
theorem Rd.bare {P : Params} {h : Heap} : ∀ {v : Value} {d : D}, Rd P H h v d → d.py.isSome = true → Rd P ⟨[], H.fr⟩ h v d
  | _, _, .none, _ => .none
  | _, _, .bool b, _ => .bool b
  | _, _, .int i t, _ => .int i t
  | _, _, .str x t a b, _ => .str x t a b
  | _, _, .tuple (ds := ds) _ b c s r, e => .tuple (List.not_mem_nil) b c s (RdAll.bare r (by
      have e' : ((D.pys ds).map PyData.tuple).isSome = true := e
      rwa [Option.isSome_map] at e'))
  | _, _, .list (ds := ds) _ b c s r, e => .list (List.not_mem_nil) b c s (RdAll.bare r (by
      have e' : ((D.pys ds).map PyData.list).isSome = true := e
      rwa [Option.isSome_map] at e'))
theorem RdAll.bare {P : Params} {h : Heap} : ∀ {v : List Value} {d : List D}, RdAll P H h v d → (D.pys d).isSome = true → RdAll P ⟨[], H.fr⟩ h v d
  | _, _, .nil, _ => .nil
  | _, _, .cons (d := d) (ds := ds) a r, e => by
    unfold D.pys at e
    cases h1 : d.py with
    | none => rw [h1] at e; cases e
    | some p =>
      cases h2 : D.pys ds with
      | none => rw [h1, h2] at e; cases e
      | some ps => exact .cons (Rd.bare a (by rw [h1]; rfl)) (RdAll.bare r (by rw [h2]; rfl))
end
theorem frzD_rd (I : Inv G fs H S s) {v : Value} {d e : D} (r : Rd G.P H s.heap v d) (h : frzD S d = some e) : Rd G.P ⟨[], H.fr⟩ s.heap v e := by
  unfold frzD at h
  split at h
  · rename_i n
    split at h
    · rename_i ds hS
      split at h
      · rename_i hp
        cases h
        cases r with | loc ha =>
        obtain ⟨a', e1, vs, m, e2, e3, e4⟩ := I.objs n _ hS
        rw [ha] at e1; cases e1
        exact .list (List.not_mem_nil) (I.off _ (List.mem_of_getElem? ha)) e2 e3 (e4.bare hp)
      · cases h
    · cases h
  · split at h
    · rename_i hp; cases h; exact r.bare hp
    · cases h
theorem frz_at {j : Nat} {e : D} (h : (frz S σ)[j]? = some (some e)) : ∃ d, σ[j]? = some (some d) ∧ frzD S d = some e := by
  unfold frz at h
  rw [List.getElem?_map] at h
  cases hj : σ[j]? with
  | none => rw [hj] at h; cases h
  | some o =>
    rw [hj] at h
    have h' : o.bind (frzD S) = some e := Option.some.inj h
    cases o with
    | none => cases h'
    | some d => exact ⟨d, rfl, h'⟩
theorem frz_ok {e : Expr} (he : EvOk G fs A cf e) (I : Inv G fs H S s) (V : EnvOk G H s.heap env sc σ) : Wp G fs A (RR G) H S s (eval e env) (frzS (fun σ => ev G.C cf e sc σ) σ) := by
  intro hne
  unfold frzS at hne ⊢
  dsimp only at hne ⊢
  have I0 : Inv G fs ⟨[], H.fr⟩ [] s := ⟨I.stays, fun _ h => absurd h List.not_mem_nil, I.newF, fun _ h => absurd h List.not_mem_nil, I.liveF, List.nodup_nil, rfl, fun n o h => by simp at h, I.fa, I.gens, I.os⟩
  have V0 : EnvOk G ⟨[], H.fr⟩ s.heap env sc (frz S σ) := by
    refine ⟨V.scope, V.kind, V.glob, V.bi, V.inF, ?_, fun x i q => ?_, V.cin, V.inj⟩
    · obtain ⟨m, hn, hm⟩ := V.ns
      refine ⟨m, hn, fun x i d q1 q2 => ?_⟩
      obtain ⟨d', f1, f2⟩ := frz_at q2
      obtain ⟨v, g1, g2⟩ := hm x i d' q1 f1
      exact ⟨v, g1, frzD_rd I g2 f2⟩
    · obtain ⟨c, e1, e2, e3, v?, e4, e5⟩ := V.cells x i q
      refine ⟨c, e1, e2, e3, v?, e4, fun d q2 => ?_⟩
      obtain ⟨d', f1, f2⟩ := frz_at q2
      obtain ⟨v, g1, g2⟩ := e5 d' f1
      exact ⟨v, g1, frzD_rd I g2 f2⟩
  have W := he I0 V0
  unfold Wp at W
  cases hr : ev G.C cf e sc (frz S σ) [] with
  | stuck => rw [hr] at hne; exact absurd rfl hne
  | exc c S' => rw [hr] at hne; exact absurd rfl hne
  | ok d S2 =>
    rw [hr] at hne W
    dsimp only at hne ⊢
    by_cases ha : isAtom d = true
    · rw [if_pos ha]
      refine wpAny_mono (W (fun q => nomatch q)) (fun v s' p => ?_) fun _ _ p => p
      obtain ⟨d', S', H', e1, x, J, r⟩ := p
      cases e1
      have hfr : H'.fr = H.fr := x.fr
      have kp : ∀ b o, b ∉ H.fr → s.heap.get? b = some o → s'.heap.get? b = some o := fun b o h2 e => x.keep b o (List.not_mem_nil) h2 e
      have X : Ext [] H s.heap H s'.heap := ⟨rfl, ⟨[], by simp, by simp⟩, fun b o _ h2 e => kp b o h2 e, fun b o h2 h3 e => x.keepF b o h2 h3 e, x.size⟩
      refine ⟨d, S, H, rfl, X, ⟨J.stays, I.newS, I.newF, I.off, fun b hb => ?_, I.nodup, I.len, fun n o e => ?_, ?_, J.gens, J.os⟩, ?_⟩
      · exact J.liveF b (by rw [hfr]; exact hb)
      · obtain ⟨a, e1, e2⟩ := I.objs n o e
        exact ⟨a, e1, e2.step X fun ob q => kp a ob (I.off a (List.mem_of_getElem? e1)) q⟩
      · intro env' he'
        obtain ⟨a1, L, o, a2, a3, a4⟩ := J.fa env' he'
        exact ⟨a1, L, o, a2, hfr ▸ a3, a4⟩
      · cases d with
        | bool b => cases r; exact .bool b
        | int i => cases r; exact .int _ _
        | _ => cases ha
    · rw [if_neg ha] at hne; exact absurd rfl hne
end
end Mine
end

section
set_option maxRecDepth 100000
namespace Mine
open PySem

section
variable {G : Glo} {fs : List Env} {A : Around} {cf : Str → List D → EM D} {r : Nat} {H : Hid} {S : Store} {s : Shared}

theorem chain_single {pos : Pos} {v : Value} {op : CmpOp} {e : Expr} {env : Env} (hm : behindInMarks op e = false) :
    compareChain pos v [op] (markedEach [op] [e] (evalEach [e] env)) = (do let rv ← holding [v] (eval e env); standAt pos; operate [v, rv] (compareOp op v rv)) := by
  show compareChain pos v [op] [markedBehindIn op e (eval e env)] = _
  unfold markedBehindIn
  rw [hm]; rfl
theorem test_single {pos : Pos} {v : Value} {op : CmpOp} {e : Expr} {env : Env} (hm : behindInMarks op e = false) :
    testChain pos v [op] (markedEach [op] [e] (evalEach [e] env)) = (do let rv ← holding [v] (eval e env); standAt pos; let c ← operate [v, rv] (compareOp op v rv); holding [c] (truthy c)) := by
  show testChain pos v [op] [markedBehindIn op e (eval e env)] = _
  unfold markedBehindIn
  rw [hm]; rfl

theorem chain_more {pos : Pos} {v : Value} {op : CmpOp} {ops : List CmpOp} {e : Expr} {es : List Expr} {env : Env} (h : ¬ (ops = [] ∧ es = [])) :
    compareChain pos v (op :: ops) (markedEach (op :: ops) (e :: es) (evalEach (e :: es) env)) = (do
      let rv ← holding [v] (eval e env)
      standAt pos
      let c ← holding [v, rv] (compareOp op v rv)
      release [v, rv] [c]
      if ← holding [c, rv] (truthy c) then compareChain pos rv ops (markedEach ops es (evalEach es env)) else pure c) := by
  cases ops with
  | nil =>
    cases es with
    | nil => exact absurd ⟨rfl, rfl⟩ h
    | cons e2 es => rfl
  | cons o2 ops =>
    cases es with
    | nil => rfl
    | cons e2 es => rfl
theorem test_more {pos : Pos} {v : Value} {op : CmpOp} {ops : List CmpOp} {e : Expr} {es : List Expr} {env : Env} (h : ¬ (ops = [] ∧ es = [])) :
    testChain pos v (op :: ops) (markedEach (op :: ops) (e :: es) (evalEach (e :: es) env)) = (do
      let rv ← holding [v] (eval e env)
      standAt pos
      let c ← holding [v, rv] (compareOp op v rv)
      release [v, rv] [c]
      if ← holding [c, rv] (truthy c) then testChain pos rv ops (markedEach ops es (evalEach es env)) else pure false) := by
  cases ops with
  | nil =>
    cases es with
    | nil => exact absurd ⟨rfl, rfl⟩ h
    | cons e2 es => rfl
  | cons o2 ops =>
    cases es with
    | nil => rfl
    | cons e2 es => rfl
theorem evCmp_more {C : Cfg} {a : D} {op : CmpOp} {ops : List CmpOp} {e : Expr} {es : List Expr} {sc : Scope} {σ : Sg} (h : ¬ (ops = [] ∧ es = [])) :
    evCmp C cf a (op :: ops) (e :: es) sc σ = bnd (ev C cf e sc σ) fun b => bnd (cmpM op a b) fun c => if c then evCmp C cf b ops es sc σ else ret false := by
  cases ops with
  | nil =>
    cases es with
    | nil => exact absurd ⟨rfl, rfl⟩ h
    | cons e2 es => rfl
  | cons o2 ops =>
    cases es with
    | nil => rfl
    | cons e2 es => rfl
theorem evCmp_one {C : Cfg} {a : D} {op : CmpOp} {e : Expr} {sc : Scope} {σ : Sg} : evCmp C cf a [op] [e] sc σ = bnd (ev C cf e sc σ) fun b => cmpM op a b := rfl

theorem wpAny_truthyB (K : G.Ok) (I : Inv G fs H S s) {b : Bool} {Q : Bool → Shared → Prop} {E : Value → Shared → Prop} (h : ∀ H1 S1 s1, S1 = S → Ext [] H s.heap H1 s1.heap → Inv G fs H1 S1 s1 → Q b s1) : wpAny G.M A (truthy (.bool b)) Q E s :=
  (truth_ok I (.bool b)).go K (fun q => by cases q) fun v a H1 S1 s1 e x i q => by
    cases e; cases q; exact h H1 _ s1 rfl x i

theorem cmp_nil : CmpOk G fs A cf [] := by
  intro H S s env sc σ pos ops v a I V q
  match ops with
  | [] => exact fun h => absurd rfl h
  | [_] => exact fun h => absurd rfl h
  | _ :: _ :: _ => exact fun h => absurd rfl h
theorem chain_nil : ChainOk G fs A cf [] := by
  intro H S s env sc σ pos ops v a I V q
  match ops with
  | [] => exact fun h => absurd rfl h
  | [_] => exact fun h => absurd rfl h
  | _ :: _ :: _ => exact fun h => absurd rfl h

theorem cmp_cons (K : G.Ok) (hu : A.units ≤ 9000) {e : Expr} {l : List Expr} (he : EvOk G fs A cf e) (hl : CmpOk G fs A cf l) : CmpOk G fs A cf (e :: l) := by
  intro H S s env sc σ pos ops v a I V rv
  cases ops with
  | nil => exact fun h => absurd rfl h
  | cons op ops =>
    by_cases h1 : ops = [] ∧ l = []
    · obtain ⟨rfl, rfl⟩ := h1
      rw [evCmp_one]
      intro hne
      rw [chain_single (notSet hne op)]
      refine wpAny_bind (wpAny_holding ((he I V).then K hne fun u d H1 S1 s1 e1 q1 n1 x1 I1 r1 => ?_))
      rw [q1]
      refine wpAny_bind (wpAny_standAt (PyProof.Rows.wpAny_operate' ?_))
      exact wpAny_mono (cmp_ok I1 (rv.step x1) r1 hu op n1) (fun _ _ p => p.trans x1) fun _ _ p => p.trans x1
    · rw [evCmp_more h1]
      intro hne
      rw [chain_more h1]
      refine wpAny_bind (wpAny_holding ((he I V).then K hne fun u d H1 S1 s1 e1 q1 n1 x1 I1 r1 => ?_))
      rw [q1]
      refine wpAny_bind (wpAny_standAt (wpAny_bind (wpAny_holding ((cmp_ok I1 (rv.step x1) r1 hu op).then K n1 fun c b H2 S2 s2 e2 q2 n2 x2 I2 r2 => ?_))))
      rw [q2]
      cases r2
      refine wpAny_bind (wpAny_release (wpAny_bind (wpAny_holding (wpAny_truthyB K I2 fun H3 S3 s3 e3 x3 I3 => ?_))))
      subst e3
      have x123 := (x1.trans x2).trans x3
      cases b with
      | true => exact wpAny_mono (hl pos ops I3 (V.step x123) ((r1.step x2).step x3) n2) (fun _ _ p => p.trans x123) fun _ _ p => p.trans x123
      | false => exact wpAny_pure ⟨_, _, H3, rfl, x123, I3, rfl⟩
theorem chain_cons (K : G.Ok) (X : Cxt G fs A r) {e : Expr} {l : List Expr} (he : EvOk G fs A cf e) (hl : ChainOk G fs A cf l) : ChainOk G fs A cf (e :: l) := by
  intro H S s env sc σ pos ops v a I V rv
  have hu : A.units ≤ 9000 := by have := X.units; omega
  cases ops with
  | nil => exact fun h => absurd rfl h
  | cons op ops =>
    by_cases h1 : ops = [] ∧ l = []
    · obtain ⟨rfl, rfl⟩ := h1
      rw [evCmp_one]
      intro hne
      rw [test_single (notSet hne op)]
      refine wpAny_bind (wpAny_holding ((he I V).then K hne fun u d H1 S1 s1 e1 q1 n1 x1 I1 r1 => ?_))
      rw [q1]
      refine wpAny_bind (wpAny_standAt (wpAny_bind (PyProof.Rows.wpAny_operate' ((cmp_ok I1 (rv.step x1) r1 hu op).go K n1 fun c b H2 S2 s2 e2 x2 I2 r2 => ?_))))
      rw [e2]
      cases r2
      refine wpAny_holding (wpAny_truthyB K I2 fun H3 S3 s3 e3 x3 I3 => ?_)
      subst e3
      exact ⟨_, _, H3, rfl, (x1.trans x2).trans x3, I3, rfl⟩
    · rw [evCmp_more h1]
      intro hne
      rw [test_more h1]
      refine wpAny_bind (wpAny_holding ((he I V).then K hne fun u d H1 S1 s1 e1 q1 n1 x1 I1 r1 => ?_))
      rw [q1]
      refine wpAny_bind (wpAny_standAt (wpAny_bind (wpAny_holding ((cmp_ok I1 (rv.step x1) r1 hu op).then K n1 fun c b H2 S2 s2 e2 q2 n2 x2 I2 r2 => ?_))))
      rw [q2]
      cases r2
      refine wpAny_bind (wpAny_release (wpAny_bind (wpAny_holding (wpAny_truthyB K I2 fun H3 S3 s3 e3 x3 I3 => ?_))))
      subst e3
      have x123 := (x1.trans x2).trans x3
      cases b with
      | true => exact wpAny_mono (hl pos ops I3 (V.step x123) ((r1.step x2).step x3) n2) (fun _ _ p => p.trans x123) fun _ _ p => p.trans x123
      | false => exact wpAny_pure ⟨_, _, H3, rfl, x123, I3, rfl⟩

theorem cmp_arm (K : G.Ok) {l : Expr} {ops : List CmpOp} {rs : List Expr} {pos : Pos} (hl : EvOk G fs A cf l) (h : CmpOk G fs A cf rs) : EvOk G fs A cf (.Compare l ops rs pos) := by
  intro H S s env sc σ I V
  rw [q_cmp]
  intro hne
  rw [arm_eval_Compare]
  refine wpAny_bind ((hl I V).then K hne fun v d H1 S1 s1 e1 q1 n1 x1 I1 r1 => ?_)
  rw [q1]
  refine (h pos ops I1 (V.step x1) r1).then K n1 fun c b H2 S2 s2 e2 q2 n2 x2 I2 r2 => ?_
  rw [q2]
  cases r2
  exact ⟨_, S2, H2, rfl, x1.trans x2, I2, .bool b⟩

theorem bools_nil : BoolsOk G fs A cf [] := by
  intro H S s env sc σ pos op I V
  exact fun h => absurd rfl h
theorem bools_cons (K : G.Ok) {e : Expr} {l : List Expr} (he : EvOk G fs A cf e) (hl : BoolsOk G fs A cf l) : BoolsOk G fs A cf (e :: l) := by
  intro H S s env sc σ pos op I V
  cases l with
  | nil => exact he I V
  | cons e2 l =>
    have q : evBool G.C cf op (e :: e2 :: l) sc σ = bnd (ev G.C cf e sc σ) fun a => bnd (truthM a) fun t => match op with
      | .And => (match t with
        | true => evBool G.C cf .And (e2 :: l) sc σ
        | false => ret a)
      | .Or => (match t with
        | true => ret a
        | false => evBool G.C cf .Or (e2 :: l) sc σ) := rfl
    rw [q]
    intro hne
    have q' : boolOp pos op (evalEach (e :: e2 :: l) env) = (do
        let v ← eval e env
        standAt pos
        let t ← holding [v] (truthy v)
        match op, t with
        | .And, false | .Or, true => pure v
        | _, _ => boolOp pos op (evalEach (e2 :: l) env)) := rfl
    rw [q']
    refine wpAny_bind ((he I V).then K hne fun v a H1 S1 s1 e1 q1 n1 x1 I1 r1 => ?_)
    rw [q1]
    refine wpAny_bind (wpAny_standAt (wpAny_bind (wpAny_holding ((truth_ok I1 r1).then K n1 fun t t' H2 S2 s2 e2 q2 n2 x2 I2 r2 => ?_))))
    rw [q2]
    cases r2
    have x12 := x1.trans x2
    cases op with
    | And =>
      cases t with
      | false => exact wpAny_pure ⟨_, S2, H2, rfl, x12, I2, r1.step x2⟩
      | true => exact wpAny_mono (hl pos .And I2 (V.step x12) n2) (fun _ _ p => p.trans x12) fun _ _ p => p.trans x12
    | Or =>
      cases t with
      | true => exact wpAny_pure ⟨_, S2, H2, rfl, x12, I2, r1.step x2⟩
      | false => exact wpAny_mono (hl pos .Or I2 (V.step x12) n2) (fun _ _ p => p.trans x12) fun _ _ p => p.trans x12
theorem bool_arm {op : BoolOp} {es : List Expr} {pos : Pos} (h : BoolsOk G fs A cf es) : EvOk G fs A cf (.BoolOp op es pos) := by
  intro H S s env sc σ I V
  rw [q_boolV, arm_eval_BoolOp]
  exact h pos op I V

-- calls
theorem noStar_cons {e : Expr} {l : List Expr} (h : noStar (e :: l) = true) : (∀ e' p, e ≠ .Starred e' p) ∧ noStar l = true := by
  unfold noStar at h
  rw [List.all_cons, Bool.and_eq_true] at h
  refine ⟨?_, h.2⟩
  rintro e' p rfl
  cases h.1
theorem noStar_any (pos : Pos) (env : Env) : ∀ {l : List Expr}, noStar l = true → (backTo pos (starEach l env)).any (·.1) = false
  | [], _ => rfl
  | e :: l, h => by
    obtain ⟨h1, h2⟩ := noStar_cons h
    rw [star_cons h1]
    have := noStar_any pos env h2
    simpa [backTo] using this
theorem noStar_all (pos : Pos) (env : Env) {l : List Expr} (h : noStar l = true) : (backTo pos (starEach l env)).all (fun x => !x.1) = true := by
  have := noStar_any pos env h
  rw [List.any_eq_false] at this
  rw [List.all_eq_true]
  intro x hx
  have := this x hx
  simpa using this

theorem args_ok {β : Type} (K : G.Ok) {l : List Expr} {g : List D → EM β} (hl : AllOk G fs A cf l) {env : Env} {sc : Scope} {σ : Sg} (pos : Pos) (f : Value) (I : Inv G fs H S s) (V : EnvOk G H s.heap env sc σ) (hs : noStar l = true) (hne : bnd (evAll G.C cf l sc σ) g S ≠ .stuck)
    {Q : Args → Shared → Prop} {E : Value → Shared → Prop}
    (hQ : ∀ vs ds H1 S1 s1, bnd (evAll G.C cf l sc σ) g S = g ds S1 → g ds S1 ≠ .stuck → Ext [] H s.heap H1 s1.heap → Inv G fs H1 S1 s1 → RdAll G.P H1 s1.heap vs ds → Q ⟨vs, []⟩ s1) :
    wpAny G.M A (evalArgs f true (backTo pos (starEach l env)) []) Q E s := by
  have hA := (hl pos I V).then (Q := fun vs s1 => Q ⟨vs, []⟩ s1) (E := E) K hne fun vs ds H1 S1 s1 e1 q1 n1 x1 I1 r1 => hQ vs ds H1 S1 s1 q1 n1 x1 I1 r1
  cases l with
  | nil =>
    refine PySem.evalArgs_none ?_
    have : evAll G.C cf [] sc σ S = .ok [] S := rfl
    exact hQ [] [] H S s (bnd_at this) (by rw [← bnd_at (f := g) this]; exact hne) Ext.refl I .nil
  | cons e l =>
    obtain ⟨h1, h2⟩ := noStar_cons hs
    rw [star_cons h1] at hA ⊢
    exact Calls.evalArgs_plain hA

theorem fcall_arm (K : G.Ok) (X : Cxt G fs A r) (hcf : CfOk G cf r) {x : Str} {np pos : Pos} {l : List Expr} (hl : AllOk G fs A cf l) {env : Env} {sc : Scope} {σ : Sg} {fn : Fn} (I : Inv G fs H S s) (V : EnvOk G H s.heap env sc σ)
    (hg : isGlobal sc x = true) (hs : noStar l = true) (hf : G.C.fns.lookup x = some fn) : Wp G fs A (RR G) H S s (eval (.Call (.Name x np) l [] pos) env) (bnd (evAll G.C cf l sc σ) fun ds => calm (cf x ds)) := by
  intro hne
  obtain ⟨a, o, params, pm, code, doc, e1, e2, e3, e4, e5, e6⟩ := K.fn x fn hf
  refine wpAny_Call_NameR (fname_ok K I V hg e1 (Calls.callWith_function (o := o) (args_ok K hl pos (.ref a) I V hs hne fun vs ds H1 S1 s1 q1 n1 x1 I1 r1 => ⟨⟨I1.stays a o e2, e3⟩, ?_⟩)))
  rw [q1, (calm_at n1).1]
  exact wpAny_mono (hcf X I1 hf e1 r1 (calm_at n1).2) (fun _ _ p => p.trans x1) fun _ _ p => (p.not n1).elim
/-- the same, raising -/
theorem fcallX (K : G.Ok) (X : Cxt G fs A r) (hcf : CfOk G cf r) {x : Str} {np pos : Pos} {l : List Expr} (hl : AllOk G fs A cf l) {env : Env} {sc : Scope} {σ : Sg} {fn : Fn} (I : Inv G fs H S s) (V : EnvOk G H s.heap env sc σ)
    (hg : isGlobal sc x = true) (hs : noStar l = true) (hf : G.C.fns.lookup x = some fn) (hne : bnd (evAll G.C cf l sc σ) (fun ds => cf x ds) S ≠ .stuck) :
    wpAny G.M A (eval (.Call (.Name x np) l [] pos) env) (PV G fs (RR G) H s.heap (bnd (evAll G.C cf l sc σ) (fun ds => cf x ds) S)) (PX G fs [] H s.heap (bnd (evAll G.C cf l sc σ) (fun ds => cf x ds) S)) s := by
  obtain ⟨a, o, params, pm, code, doc, e1, e2, e3, e4, e5, e6⟩ := K.fn x fn hf
  refine wpAny_Call_NameR (fname_ok K I V hg e1 (Calls.callWith_function (o := o) (args_ok K hl pos (.ref a) I V hs hne fun vs ds H1 S1 s1 q1 n1 x1 I1 r1 => ⟨⟨I1.stays a o e2, e3⟩, ?_⟩)))
  rw [q1]
  exact wpAny_mono (hcf X I1 hf e1 r1 n1) (fun _ _ p => p.trans x1) fun _ _ p => p.trans x1

theorem bf_name {x : Str} {b : Bf} (h : bfOf x = some b) : x ∈ biNames ∧ bootBuiltins x = some (bfVal b) ∧ x ≠ "__name__" := by
  unfold bfOf at h
  have go : ∀ {y : Str}, (x == y) = true → x = y := fun q => by simpa using q
  repeat' (split at h)
  all_goals first | cases h | skip
  all_goals (rename_i hx; obtain rfl := go hx; refine ⟨by decide +kernel, by rfl, by decide +kernel⟩)

theorem callB {pos : Pos} {args : List (Bool × Sem Value)} {Q : Value → Shared → Prop} {E : Value → Shared → Prop} (hp : args.any (·.1) = false) (b : Bf)
    (h : wpAny G.M A (evalArgs (bfVal b) true args []) (fun a s1 => wpAny G.M A (call (bfVal b) ([] ++ a.pos) a.kw) Q E s1) E s) : wpAny G.M A (callWith pos (bfVal b) [] args []) Q E s := by
  cases b with
  | len => exact Calls.callWith_builtin (id := "len") hp h
  | range => exact PySem.callWith_type (T := "range") hp h
  | all => exact Calls.callWith_builtin (id := "all") hp h
  | tuple => exact PySem.callWith_type (T := "tuple") hp h
  | list => exact PySem.callWith_type (T := "list") hp h
  | int => exact PySem.callWith_type (T := "int") hp h

theorem bcall_arm (K : G.Ok) (X : Cxt G fs A r) {x : Str} {np pos : Pos} {l : List Expr} (hl : AllOk G fs A cf l) {env : Env} {sc : Scope} {σ : Sg} {b : Bf} (I : Inv G fs H S s) (V : EnvOk G H s.heap env sc σ)
    (hg : isGlobal sc x = true) (hs : noStar l = true) (hb : bfOf x = some b) : Wp G fs A (RR G) H S s (eval (.Call (.Name x np) l [] pos) env) (bnd (evAll G.C cf l sc σ) fun ds => bfM G.C pos b ds) := by
  intro hne
  obtain ⟨h1, h2, h3⟩ := bf_name hb
  refine wpAny_Call_NameR (bname_ok K I V hg h1 h2 h3 (callB (noStar_any pos env hs) b (args_ok K hl pos _ I V hs hne fun vs ds H1 S1 s1 q1 n1 x1 I1 r1 => ?_)))
  rw [q1]
  exact wpAny_mono (bf_ok X I1 r1 G.C pos b n1) (fun _ _ p => p.trans x1) fun _ _ p => p.trans x1
end
end Mine
end

section
set_option maxRecDepth 100000
namespace Mine
open PySem

section
variable {G : Glo} {fs : List Env} {A : Around} {cf : Str → List D → EM D} {r : Nat} {H : Hid} {S : Store} {s : Shared}

theorem isaNames_inv {t : Str} (h : isaNames.contains t = true) : ∃ T : String, t = Str.ofString T ∧ t ∈ biNames ∧ bootBuiltins t = some (.type T) ∧ t ≠ "__name__" ∧ (T = "bool" ∨ T = "int" ∨ T = "str" ∨ T = "tuple" ∨ T = "list") := by
  have : t ∈ isaNames := by simpa using h
  unfold isaNames at this
  simp only [List.mem_cons, List.not_mem_nil, or_false] at this
  rcases this with rfl | rfl | rfl | rfl | rfl
  · exact ⟨"bool", rfl, by decide +kernel, by rfl, by decide +kernel, by simp⟩
  · exact ⟨"int", rfl, by decide +kernel, by rfl, by decide +kernel, by simp⟩
  · exact ⟨"str", rfl, by decide +kernel, by rfl, by decide +kernel, by simp⟩
  · exact ⟨"tuple", rfl, by decide +kernel, by rfl, by decide +kernel, by simp⟩
  · exact ⟨"list", rfl, by decide +kernel, by rfl, by decide +kernel, by simp⟩

theorem isa_arm (K : G.Ok) {np pos tp : Pos} {e : Expr} {t : Str} (he : EvOk G fs A cf e) {env : Env} {sc : Scope} {σ : Sg} (I : Inv G fs H S s) (V : EnvOk G H s.heap env sc σ)
    (hg : isGlobal sc "isinstance" = true) (hs : noStar [e, .Name t tp] = true) : Wp G fs A (RR G) H S s (eval (.Call (.Name "isinstance" np) [e, .Name t tp] [] pos) env) (evIsa G.C cf [e, .Name t tp] sc σ) := by
  have q : evIsa G.C cf [e, .Name t tp] sc σ = if isGlobal sc t then bnd (ev G.C cf e sc σ) fun a => if isaOk G.C a t then bnd (isaM G.C a t) fun b => ret (.bool b) else stk else stk := rfl
  rw [q]
  intro hne
  by_cases ht : isGlobal sc t = true
  · rw [if_pos ht] at hne ⊢
    obtain ⟨h1, h2⟩ := noStar_cons hs
    refine wpAny_Call_NameR (bname_ok K I V hg (v := .builtin "isinstance") (by decide +kernel) (by rfl) (by decide +kernel) (Calls.callWith_builtin (noStar_any pos env hs) ?_))
    rw [star_cons h1]
    refine Calls.evalArgs_plain (Calls.spliced_cons ((he I V).then K hne fun v a H1 S1 s1 e1 q1 n1 x1 I1 r1 => ?_))
    rw [q1]
    by_cases ho : isaOk G.C a t = true
    · rw [if_pos ho] at n1 ⊢
      have hn : isaNames.contains t = true := by
        cases r1 <;> exact ho
      obtain ⟨T, rfl, t2, t3, t4, t5⟩ := isaNames_inv hn
      have V1 := V.step x1
      refine Calls.spliced_cons (bname_ok K I1 V1 ht t2 t3 t4 (Calls.spliced_nil ?_))
      refine (isa_ok I1 r1 G.C T t5).then K n1 fun w b H2 S2 s2 e2 q2 n2 x2 I2 r2 => ?_
      rw [q2]
      cases r2
      exact ⟨_, S2, H2, rfl, x1.trans x2, I2, .bool b⟩
    · rw [if_neg ho] at n1; exact absurd rfl n1
  · rw [if_neg ht] at hne; exact absurd rfl hne

theorem base_eq {o : Expr} (h : notCall o = true) (m : Str) (env : Env) (w : Sem Value) : attributeBase o m env w = w := by
  cases o <;> first | rfl | cases h

theorem mcall_arm (K : G.Ok) (X : Cxt G fs A r) {o : Expr} {m : Str} {apos pos : Pos} {l : List Expr} (ho : EvOk G fs A cf o) (hl : AllOk G fs A cf l) {env : Env} {sc : Scope} {σ : Sg} (I : Inv G fs H S s) (V : EnvOk G H s.heap env sc σ)
    (hs : noStar l = true) (hc : (apos.endLine == pos.line && notCall o && decide (l.length < 20)) = true)
    {i : MImpl} (hi : G.C.meths.lookup m = some i) : Wp G fs A (RR G) H S s (eval (.Call (.Attribute o m apos) l [] pos) env) (bnd (ev G.C cf o sc σ) fun a => bnd (methK i a) fun _ => bnd (evAll G.C cf l sc σ) fun ds => i.run a ds) := by
  intro hne
  simp only [Bool.and_eq_true, decide_eq_true_eq] at hc
  obtain ⟨⟨c1, c2⟩, c3⟩ := hc
  refine wpAny_Call_method_late (base_eq c2 m env _) ?_ c1 rfl ((ho I V).then K hne fun v a H1 S1 s1 e1 q1 n1 x1 I1 r1 => ?_)
  · rw [Bool.and_eq_true, Bool.and_eq_true]
    refine ⟨⟨noStar_all pos env hs, rfl⟩, ?_⟩
    simp only [decide_eq_true_eq]
    show l.length + 0 + 0 < 30
    omega
  · rw [q1]
    have hm : i.ok S1 a = true := by
      by_cases h : i.ok S1 a = true
      · exact h
      · exact absurd (by unfold bnd methK; rw [if_neg h]) n1
    have q2 : bnd (methK i a) (fun _ => bnd (evAll G.C cf l sc σ) fun ds => i.run a ds) S1 = bnd (evAll G.C cf l sc σ) (fun ds => i.run a ds) S1 := by
      show bnd (methK i a) _ S1 = _
      unfold bnd methK; rw [if_pos hm]
    rw [q2] at n1 ⊢
    obtain ⟨T, t1, t2, t3, t4, t5⟩ := (K.meths m i hi).find I1 r1 hm
    refine ⟨T, i.id a, t1, t2, t3, t4, t5, Calls.callWith_builtin (noStar_any pos env hs) (args_ok K hl pos _ I1 (V.step x1) hs n1 fun vs ds H2 S2 s2 q2 n2 x2 I2 r2 => ?_)⟩
    rw [q2]
    exact wpAny_mono ((K.meths m i hi).run X I2 (r1.step x2) r2 n2) (fun _ _ p => p.trans (x1.trans x2)) fun _ _ p => p.trans (x1.trans x2)

theorem icall_arm (K : G.Ok) (X : Cxt G fs A r) {x : Str} {np pos : Pos} {l : List Expr} (hl : AllOk G fs A cf l) {env : Env} {sc : Scope} {σ : Sg} {i : BImpl} (I : Inv G fs H S s) (V : EnvOk G H s.heap env sc σ)
    (hg : isGlobal sc x = true) (hs : noStar l = true) (hi : G.C.bfs.lookup x = some i) : Wp G fs A (RR G) H S s (eval (.Call (.Name x np) l [] pos) env) (bnd (evAll G.C cf l sc σ) fun ds => i.run (G.C.own pos) ds) := by
  intro hne
  have P := K.bfs x i hi
  obtain ⟨id, hid⟩ := P.val
  refine wpAny_Call_NameR (bname_ok K I V hg P.mem P.boot P.ne ?_)
  rw [hid]
  refine Calls.callWith_builtin (noStar_any pos env hs) (args_ok K hl pos _ I V hs hne fun vs ds H1 S1 s1 q1 n1 x1 I1 r1 => ?_)
  rw [q1]
  have := P.run (G.C.own pos) X I1 r1 n1
  rw [hid] at this
  exact wpAny_mono this (fun _ _ p => p.trans x1) fun _ _ p => p.trans x1

theorem isRev_inv {x : Str} {l : List Expr} (h : isRev x l = true) : ∃ gp e rp, l = [.Call (.Name "reversed" gp) [e] [] rp] ∧ x = "tuple" := by
  unfold isRev at h
  rw [Bool.and_eq_true] at h
  obtain ⟨h1, h2⟩ := h
  split at h2
  · rw [beq_iff_eq.mp h2]
    exact ⟨_, _, _, rfl, beq_iff_eq.mp h1⟩
  · cases h2
theorem rev_arm (K : G.Ok) (X : Cxt G fs A r) {e : Expr} {np gp rp pos : Pos} (he : EvOk G fs A cf e) {env : Env} {sc : Scope} {σ : Sg} (I : Inv G fs H S s) (V : EnvOk G H s.heap env sc σ) (hg : isGlobal sc "tuple" = true) :
    Wp G fs A (RR G) H S s (eval (.Call (.Name "tuple" np) [.Call (.Name "reversed" gp) [e] [] rp] [] pos) env) (evRev G.C cf [.Call (.Name "reversed" gp) [e] [] rp] sc σ) := by
  have q : evRev G.C cf [.Call (.Name "reversed" gp) [e] [] rp] sc σ = if G.C.rev && isGlobal sc "reversed" then bnd (ev G.C cf e sc σ) fun a => onTup a (fun ds => ret (.tuple ds.reverse)) stk else stk := rfl
  rw [q]
  by_cases hc : (G.C.rev && isGlobal sc "reversed") = true
  · rw [if_pos hc]
    rw [Bool.and_eq_true] at hc
    obtain ⟨h1, h2⟩ := hc
    intro hne
    have ns := notStar hne
    have hs1 : noStar [e] = true := by
      unfold noStar
      rw [List.all_cons, List.all_nil, Bool.and_true]
      cases e with
      | Starred e' p => exact absurd rfl (ns e' p)
      | _ => rfl
    refine wpAny_Call_NameR (bname_ok K I V hg (v := .type "tuple") (by decide +kernel) (by rfl) (by decide +kernel) (PySem.callWith_type (T := "tuple") (noStar_any pos env rfl) ?_))
    rw [star_cons (fun _ _ h => by cases h)]
    refine Calls.evalArgs_plain (Calls.spliced_cons ?_)
    refine wpAny_Call_NameR (bname_ok K I V h2 (v := .type "reversed") (by decide +kernel) (by rfl) (by decide +kernel) (PySem.callWith_type (T := "reversed") (noStar_any rp env hs1) ?_))
    rw [star_cons ns]
    refine Calls.evalArgs_plain (Calls.spliced_cons ((he I V).then K hne fun v a H1 S1 s1 e1 q1 n1 x1 I1 r1 => Calls.spliced_nil ?_))
    rw [q1]
    cases a with
    | tuple ds =>
      refine wpAny_mono (K.rev h1 X I1 r1) (fun w s2 p => Calls.spliced_nil ?_) fun _ _ p => p.trans x1
      exact wpAny_mono p (fun _ _ p => p.trans x1) fun _ _ p => p.trans x1
    | _ => exact absurd rfl n1
  · rw [if_neg hc]; exact Wp.stk

/-- a call, whole -/
theorem call_arm (K : G.Ok) (X : Cxt G fs A r) (hcf : CfOk G cf r) {f : Expr} {l : List Expr} {kws : List Keyword} {pos : Pos} (ho : ∀ o m p, f = .Attribute o m p → EvOk G fs A cf o) (hl : AllOk G fs A cf l) (hi : ∀ e t p, l = [e, .Name t p] → EvOk G fs A cf e) (hr : ∀ e g gp rp, l = [.Call (.Name g gp) [e] [] rp] → EvOk G fs A cf e) :
    EvOk G fs A cf (.Call f l kws pos) := by
  intro H S s env sc σ I V
  cases kws with
  | cons k kws => exact fun h => absurd rfl h
  | nil =>
    cases f with
    | Name x np =>
      have q : ev G.C cf (.Call (.Name x np) l [] pos) sc σ = if noStar l then (if isGlobal sc x then
        (match G.C.fns.lookup x with
        | some _ => bnd (evAll G.C cf l sc σ) fun ds => calm (cf x ds)
        | none => if x == "isinstance" then evIsa G.C cf l sc σ else if isRev x l then evRev G.C cf l sc σ else
          (match bfOf x with
          | some b => bnd (evAll G.C cf l sc σ) fun ds => bfM G.C pos b ds
          | none => (match G.C.bfs.lookup x with
            | some i => bnd (evAll G.C cf l sc σ) fun ds => i.run (G.C.own pos) ds
            | none => stk))) else stk) else stk := rfl
      by_cases hs : noStar l = true
      rotate_left 1
      · rw [q, if_neg hs]; exact Wp.stk
      rw [q, if_pos hs]
      by_cases hg : isGlobal sc x = true
      · rw [if_pos hg]
        cases hf : G.C.fns.lookup x with
        | some fn => exact fcall_arm K X hcf hl I V hg hs hf
        | none =>
          dsimp only
          by_cases h1 : (x == "isinstance") = true
          · rw [if_pos h1]
            obtain rfl := beq_iff_eq.mp h1
            match l, hi, hs with
            | [], _, _ => exact fun h => absurd rfl h
            | [_], _, _ => exact fun h => absurd rfl h
            | _ :: u :: _ :: _, _, _ => cases u <;> exact fun h => absurd rfl h
            | [e, u], hi, hs =>
              cases u with
              | Name t tp => exact isa_arm K (hi e t tp rfl) I V hg hs
              | _ => exact fun h => absurd rfl h
          · rw [if_neg h1]
            by_cases h2 : isRev x l = true
            · rw [if_pos h2]
              obtain ⟨gp, e, rp, rfl, rfl⟩ := isRev_inv h2
              exact rev_arm K X (hr e _ gp rp rfl) I V hg
            · rw [if_neg h2]
              cases hb : bfOf x with
              | none =>
                dsimp only
                cases hi : G.C.bfs.lookup x with
                | none => exact Wp.stk
                | some i => exact icall_arm K X hl I V hg hs hi
              | some b => exact bcall_arm K X hl I V hg hs hb
      · rw [if_neg hg]; exact Wp.stk
    | Attribute o m apos =>
      have q : ev G.C cf (.Call (.Attribute o m apos) l [] pos) sc σ = if noStar l then (if apos.endLine == pos.line && notCall o && decide (l.length < 20) then (match G.C.meths.lookup m with
        | some i => bnd (ev G.C cf o sc σ) fun a => bnd (methK i a) fun _ => bnd (evAll G.C cf l sc σ) fun ds => i.run a ds
        | none => stk) else stk) else stk := rfl
      by_cases hs : noStar l = true
      rotate_left 1
      · rw [q, if_neg hs]; exact Wp.stk
      rw [q, if_pos hs]
      by_cases hc : (apos.endLine == pos.line && notCall o && decide (l.length < 20)) = true
      · rw [if_pos hc]
        cases hi : G.C.meths.lookup m with
        | none => exact Wp.stk
        | some i => exact mcall_arm K X (ho o m apos rfl) hl I V hs hc hi
      · rw [if_neg hc]; exact Wp.stk
    | _ =>
      refine Wp.stuck ?_
      show (if noStar l = true then stk else stk) S = _
      split <;> rfl
end
end Mine
end

section
set_option maxRecDepth 100000
namespace Mine
open PySem

section
variable {G : Glo} {fs : List Env} {A : Around} {H H1 H' : Hid} {S : Store} {s : Shared} {n : Nat} {env : Env} {sc : Scope} {σ : Sg} {h h₀ h1 h' : Heap} {ns X Y : List Addr}

theorem Ext.around' (k : ∀ b o, h₀.get? b = some o → h.get? b = some o) (hs : h₀.objs.size ≤ h.objs.size) (hn : ∀ b ∈ ns, h₀.objs.size ≤ b) (hX : ∀ b ∈ X, b ∈ ns ∨ b ∈ Y)
    (x : Ext X ⟨H.ρ, ns ++ H.fr⟩ h H1 h1) (kk : ∀ b o, b ∉ ns → h1.get? b = some o → h'.get? b = some o) (hz : h1.objs.size ≤ h'.objs.size) : Ext Y H h₀ ⟨H1.ρ, H.fr⟩ h' := by
  have y := x.around (Y := Y) k hs hn hX
  have off : ∀ b o, h₀.get? b = some o → b ∉ ns := fun b o e q => absurd (Heap.lt_size e) (Nat.not_lt.mpr (hn b q))
  refine ⟨rfl, y.pre, fun b o h1 h2 e => kk b o (off b o e) (y.keep b o h1 h2 e), fun b o h2 h3 e => ?_, Nat.le_trans y.size hz⟩
  obtain ⟨sl, e1, e2⟩ := y.keepF b o h2 h3 e
  exact ⟨sl, kk b _ (off b o e) e1, e2⟩

theorem Rd.into {P : Params} {v : Value} {d : D} (k : ∀ b o, h₀.get? b = some o → h.get? b = some o) (hn : ∀ b ∈ ns, h₀.objs.size ≤ b) (x : Ext X ⟨H.ρ, ns ++ H.fr⟩ h H1 h1) (r : Rd P H h₀ v d) : Rd P H1 h1 v d :=
  Rd.ext (H := H) (H' := H1) (fun b o q1 q2 e => x.hk b o q1 (fun q => by
    rcases List.mem_append.mp q with q | q
    · exact absurd (Heap.lt_size e) (Nat.not_lt.mpr (hn b q))
    · exact q2 q) (k b o e)) x.hp r

theorem Ext.plain (x : Ext X H h H1 h1) {b : Addr} {o : Obj} (hb : b ∈ H.fr) (hX : b ∉ X) (hp : plainO o = true) (e : h.get? b = some o) : h1.get? b = some o := by
  obtain ⟨sl, e1, e2⟩ := x.keepF b o hb hX e
  rw [e2 hp] at e1
  exact e1

theorem Inv.noFrame (I : Inv G fs H S s) {a : Addr} (ha : a ∉ H.fr) : ∀ env ∈ fs, env.frame ≠ some a := by
  intro env he q
  obtain ⟨_, L, _, e1, e2, _⟩ := I.fa env he
  rw [q] at e1; cases e1
  exact ha e2
theorem Inv.frames (I : Inv G fs H S s) : ∀ env ∈ fs, ∀ L, env.frame = some L → L ∈ H.fr := by
  intro env he L q
  obtain ⟨_, L', _, e1, e2, _⟩ := I.fa env he
  rw [q] at e1; cases e1
  exact e2

theorem Inv.baseNone (I : Inv G fs H S s) {b : Addr} (hb : s.heap.objs.size ≤ b) : G.B.heap.get? b = none := by
  cases hq : G.B.heap.get? b with
  | none => rfl
  | some o => exact absurd (Heap.lt_size (I.stays b o hq)) (Nat.not_lt.mpr hb)

/-- more lies apart: new things -/
theorem Inv.more {tk : Nat} (I : Inv G fs H S s) (k : ∀ b o, s.heap.get? b = some o → h'.get? b = some o) (hn : ∀ b ∈ ns, s.heap.objs.size ≤ b) (hl : ∀ b ∈ ns, ∃ o, h'.get? b = some o) :
    Inv G fs ⟨H.ρ, ns ++ H.fr⟩ S { s with heap := h', toks := tk } where
  stays := fun b o e => k b o (I.stays b o e)
  newS := I.newS
  newF := fun b hb => by
    rcases List.mem_append.mp hb with q | q
    · exact I.baseNone (hn b q)
    · exact I.newF b q
  off := fun b hb q => by
    rcases List.mem_append.mp q with q | q
    · exact absurd (I.ltS hb) (Nat.not_lt.mpr (hn b q))
    · exact I.off b hb q
  liveF := fun b hb => by
    rcases List.mem_append.mp hb with q | q
    · exact hl b q
    · obtain ⟨o, e⟩ := I.liveF b q; exact ⟨o, k b o e⟩
  nodup := I.nodup
  len := I.len
  objs := fun m o e => by
    obtain ⟨a, e1, e2⟩ := I.objs m o e
    exact ⟨a, e1, e2.ext (H := H) (fun b o h1 h2 e => ⟨h1, fun q => (List.mem_append.mp q).elim (fun q => absurd (Heap.lt_size e) (Nat.not_lt.mpr (hn b q))) h2, k b o e⟩) (fun _ _ e => e) fun ob q => k _ _ q⟩
  fa := I.fa.step (fun b q => List.mem_append_right _ q) fun b o _ e => ⟨o, k b o e, fun q => q⟩
  gens := I.gens
  os := I.os

/-- what lay apart is given up -/
theorem Inv.leave {fr : List Addr} {tk : Nat} (I : Inv G fs H S s) (hf : ∀ b ∈ fr, b ∈ H.fr) (hfs : ∀ env ∈ fs, ∀ L, env.frame = some L → L ∈ fr) (hk : ∀ b o, (b ∉ H.fr ∨ b ∈ fr) → s.heap.get? b = some o → h'.get? b = some o) :
    Inv G fs ⟨H.ρ, fr⟩ S { s with heap := h', toks := tk } where
  stays := fun b o e => hk b o (.inl fun q => by rw [I.newF b q] at e; cases e) (I.stays b o e)
  newS := I.newS
  newF := fun b hb => I.newF b (hf b hb)
  off := fun b hb q => I.off b hb (hf b q)
  liveF := fun b hb => let ⟨o, e⟩ := I.liveF b (hf b hb); ⟨o, hk b o (.inr hb) e⟩
  nodup := I.nodup
  len := I.len
  objs := fun m o e => by
    obtain ⟨a, e1, e2⟩ := I.objs m o e
    exact ⟨a, e1, e2.ext (H := H) (fun b o h1 h2 e => ⟨h1, fun q => h2 (hf b q), hk b o (.inl h2) e⟩) (fun _ _ e => e) fun ob q => hk _ _ (.inl (I.off a (List.mem_of_getElem? e1))) q⟩
  fa := fun env he => by
    obtain ⟨a, L, o, b, c, d, e⟩ := I.fa env he
    exact ⟨a, L, o, b, hfs env he L b, hk L o (.inr (hfs env he L b)) d, e⟩
  gens := I.gens
  os := I.os

theorem lookup_pair {x : Str} {c : Addr} : ∀ {l : List (Str × Addr)}, l.lookup x = some c → (x, c) ∈ l
  | [], h => by cases h
  | (y, d) :: l, h => by
    rw [List.lookup_cons] at h
    by_cases hy : (x == y) = true
    · rw [hy] at h
      obtain rfl := beq_iff_eq.mp hy
      cases h; exact List.mem_cons_self ..
    · have hy' : (x == y) = false := by simpa using hy
      rw [hy'] at h
      exact List.mem_cons_of_mem _ (lookup_pair h)

theorem EnvOk.more (V : EnvOk G H h env sc σ) (k : ∀ b o, h.get? b = some o → h'.get? b = some o) (hn : ∀ b ∈ ns, h.objs.size ≤ b) : EnvOk G ⟨H.ρ, ns ++ H.fr⟩ h' env sc σ where
  scope := V.scope
  kind := V.kind
  glob := V.glob
  bi := V.bi
  inF := List.mem_append_right _ V.inF
  ns := by
    obtain ⟨m, e1, e2⟩ := V.ns
    refine ⟨m, e1.keeps k, fun x i d q1 q2 => ?_⟩
    obtain ⟨v, f1, f2⟩ := e2 x i d q1 q2
    exact ⟨v, f1, f2.more k fun b hb => (List.mem_append.mp hb).elim (fun q => .inr (hn b q)) .inl⟩
  cells := fun x i q => by
    obtain ⟨c, e1, e2, e3, v, e4, e5⟩ := V.cells x i q
    refine ⟨c, e1, List.mem_append_right _ e2, e3, v, e4.keeps k, fun d q => ?_⟩
    obtain ⟨u, f1, f2⟩ := e5 d q
    exact ⟨u, f1, f2.more k fun b hb => (List.mem_append.mp hb).elim (fun q => .inr (hn b q)) .inl⟩
  cin := fun p hp => List.mem_append_right _ (V.cin p hp)
  inj := V.inj

/-- the environment's own things are not of X -/
noncomputable def EnvOff (env : Env) (sc : Scope) (X : List Addr) : Prop := env.locals ∉ X ∧ ∀ y i c, slot sc.names y = some (i, .cell) → env.cells.lookup y = some c → c ∉ X

theorem EnvOk.stepX (V : EnvOk G H h env sc σ) (e : Ext X H h H' h') (o : EnvOff env sc X) : EnvOk G H' h' env sc σ where
  scope := V.scope
  kind := V.kind
  glob := V.glob
  bi := V.bi
  inF := by rw [e.fr]; exact V.inF
  ns := by
    obtain ⟨m, n, r⟩ := V.ns
    refine ⟨m, Ns.upto n fun o' q => (e.keepF _ o' V.inF o.1 q).imp fun _ r => r.1, fun y i d q1 q2 => ?_⟩
    obtain ⟨v, q, r'⟩ := r y i d q1 q2
    exact ⟨v, q, r'.step e⟩
  cells := fun y i q => by
    obtain ⟨c, e1, e2, e3, v, e4, e5⟩ := V.cells y i q
    refine ⟨c, e1, by rw [e.fr]; exact e2, e3, v, IsCell.upto e4 fun o' q' => (e.keepF _ o' e2 (o.2 y i c q e1) q').imp fun _ r => r.1, fun d q => ?_⟩
    obtain ⟨u, q1, q2⟩ := e5 d q
    exact ⟨u, q1, q2.step e⟩
  cin := fun p hp => by rw [e.fr]; exact V.cin p hp
  inj := V.inj

/-- back to where less lies apart -/
theorem EnvOk.less {fr : List Addr} (V : EnvOk G H h env sc σ) (hf : ∀ b ∈ fr, b ∈ H.fr) (hk : ∀ b o, (b ∉ H.fr ∨ b ∈ fr) → h.get? b = some o → h'.get? b = some o) (hl : env.locals ∈ fr) (hc : ∀ p ∈ env.cells, p.2 ∈ fr) : EnvOk G ⟨H.ρ, fr⟩ h' env sc σ where
  scope := V.scope
  kind := V.kind
  glob := V.glob
  bi := V.bi
  inF := hl
  ns := by
    obtain ⟨m, n, r⟩ := V.ns
    refine ⟨m, Ns.upto n fun o' q => ⟨o'.slots, hk _ _ (.inr hl) q⟩, fun y i d q1 q2 => ?_⟩
    obtain ⟨v, q, r'⟩ := r y i d q1 q2
    exact ⟨v, q, Rd.ext (H := H) (H' := ⟨H.ρ, fr⟩) (fun b o h1 h2 e => ⟨h1, fun q => h2 (hf b q), hk b o (.inl h2) e⟩) (fun _ _ e => e) r'⟩
  cells := fun y i q => by
    obtain ⟨c, e1, e2, e3, v, e4, e5⟩ := V.cells y i q
    have hcf := hc _ (lookup_pair e1)
    refine ⟨c, e1, hcf, e3, v, IsCell.upto e4 fun o' q => ⟨o'.slots, hk _ _ (.inr hcf) q⟩, fun d q => ?_⟩
    obtain ⟨u, q1, q2⟩ := e5 d q
    exact ⟨u, q1, Rd.ext (H := H) (H' := ⟨H.ρ, fr⟩) (fun b o h1 h2 e => ⟨h1, fun q => h2 (hf b q), hk b o (.inl h2) e⟩) (fun _ _ e => e) q2⟩
  cin := hc
  inj := V.inj

theorem EnvOk.lt (V : EnvOk G H h env sc σ) : env.locals < h.objs.size := let ⟨_, n, _⟩ := V.ns; n.lt

theorem RdAll.exts {P : Params} {vs : List Value} {ds : List D} (hf : ∀ b ∈ H'.fr, b ∈ H.fr) (hρ : ∃ t, H'.ρ = H.ρ ++ t ∧ ∀ b ∈ t, b ∈ H.fr) (hk : ∀ b o, b ∉ H.fr → h.get? b = some o → h'.get? b = some o) (r : RdAll P H h vs ds) : RdAll P H' h' vs ds := by
  obtain ⟨t, e, ht⟩ := hρ
  refine RdAll.ext (H := H) (H' := H') (fun b o h1 h2 q => ⟨?_, fun z => h2 (hf b z), hk b o h2 q⟩) (fun n a q => prefix_get e q) r
  rw [e]; intro z
  rcases List.mem_append.mp z with z | z
  · exact h1 z
  · exact h2 (ht b z)

/-- a list that lay apart becomes a thing of the program: frozen, or of the store -/
theorem adopt {fr : List Addr} {tk : Nat} {a : Addr} {vs : Array Value} {c : Nat} {ds : List D} (C : Cfg) (pos : Pos) (I : Inv G fs H S s) (ha : a ∈ H.fr) (haf : a ∉ fr) (hg : s.heap.get? a = some (lstO vs c)) (hz : vs.size ≤ sizeLine) (r : RdAll G.P H s.heap vs.toList ds)
    (hf : ∀ b ∈ fr, b ∈ H.fr) (hfs : ∀ env ∈ fs, ∀ L, env.frame = some L → L ∈ fr) (hk : ∀ b o, (b ∉ H.fr ∨ b ∈ a :: fr) → s.heap.get? b = some o → h'.get? b = some o) :
    ∃ d S2 t, mkList C pos ds S = .ok d S2 ∧ (∀ b ∈ t, b = a) ∧ Inv G fs ⟨H.ρ ++ t, fr⟩ S2 { s with heap := h', toks := tk } ∧ Rd G.P ⟨H.ρ ++ t, fr⟩ h' (.ref a) d := by
  have hk' : ∀ b o, (b ∉ H.fr ∨ b ∈ fr) → s.heap.get? b = some o → h'.get? b = some o := fun b o q e => hk b o (q.imp_right (List.mem_cons_of_mem _)) e
  have hga := hk a _ (.inr (List.mem_cons_self ..)) hg
  have aS : a ∉ H.ρ := fun q => I.off a q ha
  unfold mkList
  by_cases ho : C.own pos = true
  · rw [if_pos ho]
    have rdx : ∀ {vs : List Value} {ds : List D}, RdAll G.P H s.heap vs ds → RdAll G.P ⟨H.ρ ++ [a], fr⟩ h' vs ds := fun q => q.exts hf ⟨[a], rfl, by simpa using ha⟩ fun b o z e => hk' b o (.inl z) e
    refine ⟨.loc S.length, S ++ [.list ds], [a], rfl, by simp, ?_, .loc ?_⟩
    · refine ⟨fun b o e => hk' b o (.inl fun q => by rw [I.newF b q] at e; cases e) (I.stays b o e), fun b hb => ?_, fun b hb => I.newF b (hf b hb), fun b hb q => ?_, fun b hb => ?_, ?_, by simp [I.len], fun m o e => ?_, fun env he => ?_, I.gens, I.os⟩
      · rcases List.mem_append.mp hb with q | q
        · exact I.newS b q
        · simp only [List.mem_singleton] at q; subst q; exact I.newF b ha
      · rcases List.mem_append.mp hb with z | z
        · exact I.off b z (hf b q)
        · simp only [List.mem_singleton] at z; subst z; exact haf q
      · obtain ⟨o, e⟩ := I.liveF b (hf b hb); exact ⟨o, hk' b o (.inr hb) e⟩
      · rw [List.nodup_append]
        refine ⟨I.nodup, by simp, fun b hb c hc => ?_⟩
        simp only [List.mem_singleton] at hc
        rintro rfl
        exact aS (hc ▸ hb)
      · by_cases hm : m < S.length
        · rw [List.getElem?_append_left hm] at e
          obtain ⟨b, e1, e2⟩ := I.objs m o e
          refine ⟨b, prefix_get rfl e1, e2.ext (H := H) (fun b o h1 h2 e => ⟨fun z => (List.mem_append.mp z).elim h1 fun z => h2 (by simp only [List.mem_singleton] at z; rw [z]; exact ha), fun z => h2 (hf b z), hk' b o (.inl h2) e⟩) (fun n a q => prefix_get rfl q) fun ob q => hk' _ _ (.inl (I.off b (List.mem_of_getElem? e1))) q⟩
        · have hm' : m = S.length := by
            have := (List.getElem?_eq_some_iff.mp e).1
            simp at this; omega
          subst hm'
          simp at e
          subst e
          exact ⟨a, by rw [← I.len]; simp, vs, c, hga, hz, rdx r⟩
      · obtain ⟨q, L, o, b, c, d, e⟩ := I.fa env he
        exact ⟨q, L, o, b, hfs env he L b, hk' L o (.inr (hfs env he L b)) d, e⟩
    · rw [← I.len]; simp
  · rw [if_neg ho]
    refine ⟨.list ds, S, [], rfl, by simp, ?_, ?_⟩
    · rw [List.append_nil]; exact I.leave hf hfs hk'
    · refine .list (by simpa using aS) haf hga hz (r.exts hf ⟨[], rfl, by simp⟩ fun b o z e => hk' b o (.inl z) e)
end
end Mine
end

section
set_option maxRecDepth 100000
namespace Mine
open PySem

noncomputable def clOf (cells : List (Str × Addr)) : List (Str × NameKind) → List (Str × Addr) → List (Str × Addr)
  | [], acc => acc
  | (x, k) :: r, acc => if k == .free then (match cells.lookup x with
    | some c => clOf cells r ((x, c) :: acc)
    | none => clOf cells r acc) else clOf cells r acc

theorem clOf_ok {cells : List (Str × Addr)} : ∀ {ns : List (Str × NameKind)} {acc : List (Str × Addr)}, (∀ p ∈ acc, cells.lookup p.1 = some p.2) → ∀ p ∈ clOf cells ns acc, cells.lookup p.1 = some p.2
  | [], _, h, p, hp => h p hp
  | (x, k) :: r, acc, h, p, hp => by
    unfold clOf at hp
    split at hp
    · split at hp
      · rename_i c hc
        refine clOf_ok (fun q hq => ?_) p hp
        rcases List.mem_cons.mp hq with rfl | hq
        · exact hc
        · exact h q hq
      · exact clOf_ok h p hp
    · exact clOf_ok h p hp
theorem clOf_acc {cells : List (Str × Addr)} : ∀ {ns : List (Str × NameKind)} {acc : List (Str × Addr)} {p : Str × Addr}, p ∈ acc → p ∈ clOf cells ns acc
  | [], _, _, h => h
  | (x, k) :: r, acc, p, h => by
    unfold clOf
    split
    · split
      · exact clOf_acc (List.mem_cons_of_mem _ h)
      · exact clOf_acc h
    · exact clOf_acc h
theorem clOf_has {cells : List (Str × Addr)} : ∀ {ns : List (Str × NameKind)} {acc : List (Str × Addr)} {x : Str} {c : Addr}, (x, NameKind.free) ∈ ns → cells.lookup x = some c → (x, c) ∈ clOf cells ns acc
  | [], _, _, _, h, _ => by cases h
  | (y, k) :: r, acc, x, c, h, hc => by
    unfold clOf
    rcases List.mem_cons.mp h with e | h
    · cases e
      rw [if_pos (by decide), hc]
      exact clOf_acc (List.mem_cons_self ..)
    · split
      · split
        · exact clOf_has h hc
        · exact clOf_has h hc
      · exact clOf_has h hc
theorem mem_lookup {x : Str} {c : Addr} : ∀ {l : List (Str × Addr)}, (x, c) ∈ l → ∃ c', l.lookup x = some c' ∧ (x, c') ∈ l
  | [], h => by cases h
  | (y, d) :: l, h => by
    rw [List.lookup_cons]
    by_cases hy : (x == y) = true
    · rw [hy]
      obtain rfl := beq_iff_eq.mp hy
      exact ⟨d, rfl, List.mem_cons_self ..⟩
    · have hy' : (x == y) = false := by simpa using hy
      rw [hy']
      rcases List.mem_cons.mp h with e | h
      · cases e; simp at hy
      · obtain ⟨c', e1, e2⟩ := mem_lookup h
        exact ⟨c', e1, List.mem_cons_of_mem _ e2⟩
theorem lookup_in {x : Str} {c : Addr} : ∀ {l : List (Str × Addr)}, l.lookup x = some c → (x, c) ∈ l
  | [], h => by cases h
  | (y, d) :: l, h => by
    rw [List.lookup_cons] at h
    by_cases hy : (x == y) = true
    · rw [hy] at h
      obtain rfl := beq_iff_eq.mp hy
      cases h; exact List.mem_cons_self ..
    · have hy' : (x == y) = false := by simpa using hy
      rw [hy'] at h
      exact List.mem_cons_of_mem _ (lookup_in h)
theorem clOf_lookup {cells : List (Str × Addr)} {ns : List (Str × NameKind)} {x : Str} {c : Addr} (h : (x, NameKind.free) ∈ ns) (hc : cells.lookup x = some c) : (clOf cells ns []).lookup x = some c := by
  obtain ⟨c', e1, e2⟩ := mem_lookup (clOf_has (acc := []) h hc)
  have := clOf_ok (acc := []) (by simp) _ e2
  rw [hc] at this; cases this
  exact e1
theorem clOf_up {cells : List (Str × Addr)} {ns : List (Str × NameKind)} {x : Str} {c : Addr} (h : (clOf cells ns []).lookup x = some c) : cells.lookup x = some c :=
  clOf_ok (acc := []) (by simp) _ (lookup_in h)

theorem closure_ok {scope : Scope} {env : Env} (h : ∀ p ∈ scope.names, p.2 = .free → ∃ c, env.cells.lookup p.1 = some c) : closureFor scope env = pure (clOf env.cells scope.names []) := by
  simp only [closureFor]
  generalize ([] : List (Str × Addr)) = acc
  generalize scope.names = ns at h
  induction ns generalizing acc with
  | nil => rfl
  | cons p r ih =>
    obtain ⟨x, k⟩ := p
    have hr := fun acc => ih acc (fun q hq => h q (List.mem_cons_of_mem _ hq))
    rw [List.forIn_cons]
    unfold clOf
    by_cases hk : (k == NameKind.free) = true
    · obtain ⟨c, hc⟩ := h (x, k) (List.mem_cons_self ..) (by simpa using hk)
      simp only [hk, if_true]
      unfold cellOf
      rw [hc]
      exact hr ((x, c) :: acc)
    · simp only [hk, if_false]
      exact hr acc

section
variable {G : Glo} {fs : List Env} {A : Around} {H : Hid} {S : Store} {s : Shared} {env : Env} {sc scope : Scope} {σ : Sg} {h : Heap}

theorem slot_mem : ∀ {ns : List (Str × NameKind)} {x : Str} {i : Nat} {k : NameKind}, slot ns x = some (i, k) → (x, k) ∈ ns
  | [], _, _, _, h => by cases h
  | (y, k') :: r, x, i, k, h => by
    unfold slot at h
    split at h
    · rename_i q; cases h; rw [beq_iff_eq.mp q]; exact List.mem_cons_self ..
    · split at h
      · rename_i j k'' q2; cases h; exact List.mem_cons_of_mem _ (slot_mem q2)
      · cases h
theorem slot_map {f : Str × NameKind → Str × NameKind} (hf : ∀ p, (f p).1 = p.1) : ∀ {ns : List (Str × NameKind)} {x : Str} {i : Nat} {k : NameKind}, slot (ns.map f) x = some (i, k) → ∃ k', slot ns x = some (i, k') ∧ k = (f (x, k')).2
  | [], _, _, _, h => by cases h
  | (y, k') :: r, x, i, k, h => by
    rw [List.map_cons] at h
    have hy : f (y, k') = (y, (f (y, k')).2) := Prod.ext (hf (y, k')) rfl
    rw [hy] at h
    unfold slot at h ⊢
    split at h
    · rename_i q; cases h
      rw [if_pos q]
      obtain rfl := beq_iff_eq.mp q
      exact ⟨k', rfl, rfl⟩
    · rename_i q
      rw [if_neg q]
      split at h
      · rename_i j k'' q2; cases h
        obtain ⟨k3, e1, e2⟩ := slot_map hf q2
        exact ⟨k3, by rw [e1], e2⟩
      · cases h
theorem compSg_get {sc : Scope} {σ : Sg} : ∀ {ns : List (Str × NameKind)} {x : Str} {i : Nat} {k : NameKind}, slot ns x = some (i, k) → (compSg sc σ ns)[i]? = some (match k with
    | .free => (match slot sc.names x with
      | some (i, .cell) => (σ[i]?).join
      | _ => none)
    | _ => none)
  | [], _, _, _, h => by cases h
  | (y, k') :: r, x, i, k, h => by
    unfold slot at h
    unfold compSg
    split at h
    · rename_i q; cases h
      obtain rfl := beq_iff_eq.mp q
      rfl
    · split at h
      · rename_i j k'' q2; cases h
        rw [List.getElem?_cons_succ]
        exact compSg_get q2
      · cases h

theorem compOk_inv (h : compOk sc scope = true) : scope.kind = .function ∧ (∀ p ∈ scope.names, p.2 ≠ .cell) ∧ (∀ p ∈ scope.names, p.2 = .local → scope.names.lookup p.1 = some .local) ∧ (∀ p ∈ scope.names, p.2 = .free → ∃ i, slot sc.names p.1 = some (i, .cell)) := by
  unfold compOk at h
  rw [Bool.and_eq_true] at h
  obtain ⟨h1, h2⟩ := h
  rw [List.all_eq_true] at h2
  refine ⟨by simpa using h1, fun p hp => ?_, fun p hp q => ?_, fun p hp q => ?_⟩
  · have := h2 p hp
    simp only [Bool.and_eq_true] at this
    simpa using this.1.1
  · have := h2 p hp
    simp only [Bool.and_eq_true, Bool.or_eq_true] at this
    rcases this.1.2 with z | z
    · simp [q] at z
    · simpa using z
  · have := h2 p hp
    simp only [Bool.and_eq_true, Bool.or_eq_true] at this
    rcases this.2 with z | z
    · simp [q] at z
    · split at z
      · rename_i i hs; exact ⟨i, hs⟩
      · cases z

theorem relabel_eq (V : EnvOk G H h env sc σ) : relabel scope env = compSc sc scope := by
  unfold relabel compSc
  have := V.scope
  subst this
  rfl

theorem slot_map' {f : Str × NameKind → Str × NameKind} (hf : ∀ p, (f p).1 = p.1) : ∀ {ns : List (Str × NameKind)} {x : Str} {i : Nat} {k : NameKind}, slot ns x = some (i, k) → slot (ns.map f) x = some (i, (f (x, k)).2)
  | [], _, _, _, h => by cases h
  | (y, k') :: r, x, i, k, h => by
    rw [List.map_cons]
    have hy : f (y, k') = (y, (f (y, k')).2) := Prod.ext (hf (y, k')) rfl
    rw [hy]
    unfold slot at h ⊢
    split at h
    · rename_i q; cases h
      rw [if_pos q]
      obtain rfl := beq_iff_eq.mp q
      rfl
    · rename_i q
      rw [if_neg q]
      split at h
      · rename_i j k'' q2; cases h
        rw [slot_map' hf q2]
      · cases h
theorem comp_local {x : Str} {i : Nat} (hx : slot scope.names x = some (i, .local)) : slot (compSc sc scope).names x = some (i, .local) := by
  have hf : ∀ p : Str × NameKind, ((fun (q : Str × NameKind) => (match q with
    | (n, k) => if (k == NameKind.free && sc.kind == ScopeKind.function && sc.names.lookup n == some NameKind.cell) = true then (n, NameKind.cell) else (n, k))) p).1 = p.1 := by
    rintro ⟨n, k⟩; dsimp only; split <;> rfl
  exact slot_map' hf hx
theorem comp_cell (hok : compOk sc scope = true) {x : Str} {i : Nat} (q : slot (compSc sc scope).names x = some (i, .cell)) : ∃ j, slot sc.names x = some (j, .cell) := by
  obtain ⟨k1, k2, k3, k4⟩ := compOk_inv hok
  have hf : ∀ p : Str × NameKind, ((fun (q : Str × NameKind) => (match q with
    | (n, k) => if (k == NameKind.free && sc.kind == ScopeKind.function && sc.names.lookup n == some NameKind.cell) = true then (n, NameKind.cell) else (n, k))) p).1 = p.1 := by
    rintro ⟨n, k⟩; dsimp only; split <;> rfl
  obtain ⟨k', e1, e2⟩ := slot_map hf q
  dsimp only at e2
  split at e2
  · rename_i z
    simp only [Bool.and_eq_true, beq_iff_eq] at z
    obtain ⟨⟨rfl, _⟩, _⟩ := z
    exact k4 _ (slot_mem e1) rfl
  · exact absurd e2.symm (k2 _ (slot_mem e1))

/-- the comprehension's frame -/
theorem comp_env (V : EnvOk G H h env sc σ) (hok : compOk sc scope = true) {C : Addr} (hC : C ∈ H.fr) (hCc : ∀ y i c, slot sc.names y = some (i, .cell) → env.cells.lookup y = some c → c ≠ C) {m : Str → Option Value} (hn : h.Ns C m) :
    EnvOk G H h (compEnvC scope (clOf env.cells scope.names []) C env) (compSc sc scope) (compSg sc σ scope.names) := by
  obtain ⟨k1, k2, k3, k4⟩ := compOk_inv hok
  have hf : ∀ p : Str × NameKind, ((fun (q : Str × NameKind) => (match q with
    | (n, k) => if (k == NameKind.free && sc.kind == ScopeKind.function && sc.names.lookup n == some NameKind.cell) = true then (n, NameKind.cell) else (n, k))) p).1 = p.1 := by
    rintro ⟨n, k⟩; dsimp only; split <;> rfl
  have cellInv : ∀ {x : Str} {i : Nat}, slot (compSc sc scope).names x = some (i, .cell) → slot scope.names x = some (i, .free) ∧ ∃ j, slot sc.names x = some (j, .cell) := by
    intro x i q
    obtain ⟨k', e1, e2⟩ := slot_map hf q
    dsimp only at e2
    split at e2
    · rename_i z
      simp only [Bool.and_eq_true, beq_iff_eq] at z
      obtain ⟨⟨rfl, _⟩, _⟩ := z
      exact ⟨e1, k4 _ (slot_mem e1) rfl⟩
    · exact absurd e2.symm (k2 _ (slot_mem e1))
  refine ⟨relabel_eq V, k1, V.glob, V.bi, hC, ⟨m, hn, fun x i d q1 q2 => ?_⟩, fun x i q => ?_, fun p hp => V.cin _ (lookup_in (clOf_ok (acc := []) (by simp) p hp)), fun x y i j c q1 q2 e1 e2 => ?_⟩
  · obtain ⟨k', e1, e2⟩ := slot_map hf q1
    have hk : k' = .local := by
      dsimp only at e2
      split at e2
      · cases e2
      · exact e2.symm
    subst hk
    rw [compSg_get e1] at q2
    cases q2
  · obtain ⟨f1, j, f2⟩ := cellInv q
    obtain ⟨c, e1, e2, e3, v?, e4, e5⟩ := V.cells x j f2
    refine ⟨c, clOf_lookup (slot_mem f1) e1, e2, hCc x j c f2 e1, v?, e4, fun d q2 => ?_⟩
    rw [compSg_get f1] at q2
    dsimp only at q2
    rw [f2] at q2
    refine e5 d ?_
    dsimp only at q2
    cases hj : σ[j]? with
    | none => rw [hj] at q2; cases q2
    | some o => rw [hj] at q2; cases o with
      | none => cases q2
      | some d' => cases q2; rfl
  · obtain ⟨_, i', f1⟩ := cellInv q1
    obtain ⟨_, j', f2⟩ := cellInv q2
    exact V.inj x y i' j' c f1 f2 (clOf_up e1) (clOf_up e2)

theorem put_local (I : Inv G fs H S s) (V : EnvOk G H s.heap env sc σ) {x : Str} {i : Nat} {v : Value} {d : D} (r : Rd G.P H s.heap v d) (hs : slot sc.names x = some (i, .local)) {Q : Unit → Shared → Prop} {E : Value → Shared → Prop}
    (hQ : ∀ h' tk, Ext [env.locals] H s.heap H h' → Inv G fs H S { s with heap := h', toks := tk } → EnvOk G H h' env sc (put σ i d) → Q () { s with heap := h', toks := tk }) : wpAny G.M A (storeName env x v) Q E s := by
  have hk : env.scope.kind = .function := by rw [V.scope]; exact V.kind
  obtain ⟨m, hn, hm⟩ := V.ns
  refine wpAny_storeName_local (V.kindOf hs) hn (fun h' hn' hs' => ?_) (by rw [hk]; rfl)
  obtain ⟨J, x'⟩ := I.setF (tk := s.toks + 1) V.inF (fun b o hb e => (hs'.2 b hb).trans e) (Nat.le_of_eq hs'.1.symm) (by
    obtain ⟨o, es, ep, q1, q2, _⟩ := hn'
    exact ⟨o, q1, .inl (by unfold plainO; rw [q2])⟩)
  refine hQ h' _ x' J ⟨V.scope, V.kind, V.glob, V.bi, V.inF, ⟨_, hn', fun y j e q1 q2 => ?_⟩, fun y j q => ?_, V.cin, V.inj⟩
  · rcases put_get q2 with ⟨rfl, rfl⟩ | ⟨hj, q2⟩
    · obtain rfl := slot_inj hs q1
      exact ⟨v, by simp, r.step x'⟩
    · have hy : y ≠ x := fun q => hj (by rw [q, hs] at q1; cases q1; rfl)
      obtain ⟨u, q3, q4⟩ := hm y j e q1 q2
      exact ⟨u, by simp [hy, q3], q4.step x'⟩
  · obtain ⟨c, e1, e2, e3, v?, e4, e5⟩ := V.cells y j q
    refine ⟨c, e1, e2, e3, v?, e4.sameBut hs' e3, fun e q2 => ?_⟩
    rcases put_get q2 with ⟨rfl, rfl⟩ | ⟨hj, q2⟩
    · obtain rfl := slot_inj hs q
      rw [hs] at q; cases q
    · obtain ⟨u, q3, q4⟩ := e5 e q2
      exact ⟨u, q3, q4.step x'⟩
end
end Mine
end

section
set_option maxRecDepth 100000
namespace Mine
open PySem

/-- one turn of a comprehension -/
noncomputable def turnM (C : Cfg) (cf : Str → List D → EM D) (ifs : List Expr) (elt : Expr) (sc : Scope) (σ : Sg) (i : Nat) (d : D) : EM (Option D) :=
  bnd (evTAll C cf .And ifs sc (put σ i d)) fun ok => if ok then bnd (ev C cf elt sc (put σ i d)) fun y => ret (some y) else ret none

theorem compL_cons {turn : D → EM (Option D)} {d : D} {r : List D} : compL turn (d :: r) = bnd (turn d) fun x => bnd (compL turn r) fun ys => ret (match x with
    | some y => y :: ys
    | none => ys) := rfl

section
variable {G : Glo} {fs : List Env} {A : Around} {cf : Str → List D → EM D} {H : Hid} {S : Store} {s : Shared} {env : Env} {sc scope : Scope} {σ : Sg}

theorem app_ok {a : Addr} {vs : Array Value} {m : Nat} {v : Value} (e : s.heap.get? a = some (lstO vs m)) (hz : vs.size ≤ sizeLine) {Q : Value → Shared → Prop} {E : Value → Shared → Prop}
    (hQ : ∀ h' m', Heap.SameBut a s.heap h' → h'.get? a = some (lstO (vs.push v) m') → Q .none { s with heap := h', toks := s.toks }) : wpAny G.M A (call (.builtin "list.append") [.ref a, v]) Q E s :=
  call_meets F.slot_list_append ⟨_, e, rfl⟩ F.entry_list_append (F.args_list_append_2 _ _) (PySem.list_append a vs m v hz) ⟨e, hQ _ _ (Heap.SameBut.update s.heap a _) (IsL.update e fun xs => xs.push v)⟩

/-- what holds between two turns -/
structure Mid (G : Glo) (fs : List Env) (H : Hid) (h₁ : Heap) (cenv : Env) (sc' : Scope) (σ' : Sg) (turn : D → EM (Option D)) (ds : List D) (S₀ : Store) (I D : Addr) (St : Nat → Heap → Prop) (n : Nat) (s : Shared)
    (k : Nat) (H1 : Hid) (S1 : Store) (done : List Mine.D) (vs : Array Value) (c : Nat) : Prop where
  cnt : n + k = ds.length
  x : Ext [I, D, cenv.locals] ⟨H.ρ, [I, D, cenv.locals] ++ H.fr⟩ h₁ H1 s.heap
  inv : Inv G fs H1 S1 s
  env : EnvOk G H1 s.heap cenv sc' σ'
  st : St k s.heap
  lst : s.heap.get? D = some (lstO vs c)
  rd : RdAll G.P H1 s.heap vs.toList done
  few : done.length ≤ k
  ne : compL turn (ds.drop k) S1 ≠ .stuck
  rest : ∀ ys S', compL turn (ds.drop k) S1 = .ok ys S' → compL turn ds S₀ = .ok (done ++ ys) S'

theorem mem3 {α : Type} {b x y z : α} (h : b ∈ [x, y, z]) : b = x ∨ b = y ∨ b = z := by simpa using h
theorem comp_core (K : G.Ok) (hh : A.handled = none) {elt iter : Expr} {x : Str} {px pos : Pos} {ifs : List Expr} {i : Nat} (ht : TestsOk G fs A cf ifs) (he : EvOk G fs A cf elt) (I₀ : Inv G fs H S s) (V : EnvOk G H s.heap env sc σ)
    (hok : compOk sc scope = true) (hx : slot scope.names x = some (i, .local)) {ds : List D} {fp : List Addr} {P : Nat → Value → Prop} {St : Nat → Heap → Prop} {oI : Obj} (T : Itr G H s.heap (s.heap.push oI) s.heap.objs.size ds fp P St)
    (hne : compL (turnM G.C cf ifs elt (compSc sc scope) (compSg sc σ scope.names) i) ds S ≠ .stuck) {RRp : Value → Addr → Result → Shared → Prop} {E : Value → Shared → Prop}
    (hR : ∀ D C s' done S1 d S2 H2 m, s.heap.objs.size ≤ C → compL (turnM G.C cf ifs elt (compSc sc scope) (compSg sc σ scope.names) i) ds S = .ok done S1 → mkList G.C pos done S1 = .ok d S2 → Ext [C] ⟨H.ρ, [C] ++ H.fr⟩ s.heap H2 s'.heap → Inv G fs H2 S2 s' →
      Rd G.P H2 s'.heap (.ref D) d → s'.heap.Ns C m → RRp (.ref D) C (.ok .next) s') :
    wpAny G.M A (newList []) (fun acc s₃ => wpAny G.M A (newFunctionEnv scope env.globals (clOf env.cells scope.names []) [] env.qual none .none (some env)) (fun cenv s₄ =>
      codeAny G.M A (.compStart (.ListComp elt [⟨.Name x px, iter, ifs, 0⟩] scope pos) 0 (.ref s.heap.objs.size) acc { cenv with scope := relabel scope env }) (RRp acc cenv.locals) s₄) E s₃) E { s with heap := s.heap.push oI } := by
  obtain ⟨k1, k2, k3, k4⟩ := compOk_inv hok
  refine wpAny_newObj_type (wpAny_newFunctionEnv k2 (by intro y hy; simp at hy) (fun h₁ hns₁ hsb₁ => ?_) k1)
  dsimp only at hns₁ hsb₁ ⊢
  generalize hH2 : (s.heap.push oI).push { cls := .type "list", dict := none, data := .seq ([] : List Value).toArray } = H2 at hns₁ hsb₁ ⊢
  have hC : H2.objs.size = s.heap.objs.size + 2 := by rw [← hH2, Heap.size_push, Heap.size_push]
  have hD : (s.heap.push oI).objs.size = s.heap.objs.size + 1 := by rw [Heap.size_push]
  have low : ∀ {b : Addr} {k : Nat}, b < s.heap.objs.size → b ≠ s.heap.objs.size + k := fun hb q => absurd hb (by rw [q]; exact Nat.not_lt.mpr (Nat.le_add_right _ _))
  have nID : s.heap.objs.size ≠ (s.heap.push oI).objs.size := by rw [hD]; exact Nat.ne_of_lt (Nat.lt_succ_self _)
  have nIC : s.heap.objs.size ≠ H2.objs.size := by rw [hC]; exact Nat.ne_of_lt (Nat.lt_add_of_pos_right (by decide))
  have nDC : (s.heap.push oI).objs.size ≠ H2.objs.size := by rw [hC, hD]; exact Nat.ne_of_lt (Nat.lt_succ_self _)
  have toH1 : ∀ b o, b ≠ H2.objs.size → H2.get? b = some o → h₁.get? b = some o := fun b o hb e => hsb₁.extBut b o hb (Heap.get?_push_of_some _ e)
  have old : ∀ b o, s.heap.get? b = some o → h₁.get? b = some o := fun b o e =>
    toH1 b o (by rw [hC]; exact low (Heap.lt_size e)) (hH2 ▸ Heap.get?_push_of_some _ (Heap.get?_push_of_some _ e))
  have old1 : ∀ b o, (s.heap.push oI).get? b = some o → h₁.get? b = some o := fun b o e => by
    have hb := Heap.lt_size e
    refine toH1 b o (fun q => ?_) (hH2 ▸ Heap.get?_push_of_some _ e)
    rw [q, hC, hD] at hb
    exact absurd hb (Nat.not_lt.mpr (Nat.le_succ _))
  have gD : h₁.get? (s.heap.push oI).objs.size = some (lstO #[] 0) := toH1 _ _ nDC (hH2 ▸ Heap.get?_push_size _ rfl)
  have hsz : s.heap.objs.size ≤ h₁.objs.size := by
    have := Heap.lt_size gD
    rw [hD] at this
    exact Nat.le_of_lt (Nat.lt_of_succ_lt this)
  have liveI : ∀ k h, St k h → ∃ o, h.get? s.heap.objs.size = some o := fun k h st => let ⟨o, e, _⟩ := T.live k h st; ⟨o, e⟩
  have st0 : St 0 h₁ := by
    refine (T.walks A hh).frame 0 _ _ T.start fun b hb o e => old1 b o e
  have nsNew : ∀ b ∈ [s.heap.objs.size, (s.heap.push oI).objs.size, H2.objs.size], s.heap.objs.size ≤ b := by
    intro b hb
    rcases mem3 hb with rfl | rfl | rfl
    · exact Nat.le_refl _
    · rw [hD]; exact Nat.le_succ _
    · rw [hC]; exact Nat.le_add_right _ _
  have I₁ : Inv G fs ⟨H.ρ, [s.heap.objs.size, (s.heap.push oI).objs.size, H2.objs.size] ++ H.fr⟩ S { s with heap := h₁, toks := s.toks + ([] : List (Str × Value)).length } := by
    refine I₀.more old nsNew fun b hb => ?_
    rcases mem3 hb with rfl | rfl | rfl
    · exact liveI 0 h₁ st0
    · exact ⟨_, gD⟩
    · obtain ⟨o, es, ep, e, _⟩ := hns₁; exact ⟨o, e⟩
  have V₁ := V.more (ns := [s.heap.objs.size, (s.heap.push oI).objs.size, H2.objs.size]) old nsNew
  have hCc : ∀ y i c, slot sc.names y = some (i, .cell) → env.cells.lookup y = some c → c ≠ H2.objs.size := fun y i c q e => by
    obtain ⟨c', e1, e2, _⟩ := V.cells y i q
    rw [e] at e1; cases e1
    rw [hC]; exact low (I₀.ltF e2)
  have W₁ := comp_env (scope := scope) V₁ hok (C := H2.objs.size) (by simp) hCc hns₁
  have fsI := I₀.noFrame I₀.freshF
  have hframes := I₀.frames
  -- the loop
  have hTE : compEnvC scope (clOf env.cells scope.names []) H2.objs.size env = compEnvC scope (clOf env.cells scope.names []) H2.objs.size env := rfl
  generalize hce : compEnvC scope (clOf env.cells scope.names []) H2.objs.size env = cenv at W₁ hTE
  have hcl : cenv.locals = H2.objs.size := by rw [← hce]; rfl
  have loop : codeAny G.M A (.compLoop (.ListComp elt [⟨.Name x px, iter, ifs, 0⟩] scope pos) 0 (.ref s.heap.objs.size) (.ref (s.heap.push oI).objs.size) cenv)
      (RRp (.ref (s.heap.push oI).objs.size) H2.objs.size) { s with heap := h₁, toks := s.toks + ([] : List (Str × Value)).length } := by
    refine codeAny_compLoop_tests (fun n s' => ∃ k H1 S1 done vs c, Mid G fs H h₁ cenv (compSc sc scope) (compSg sc σ scope.names) (turnM G.C cf ifs elt (compSc sc scope) (compSg sc σ scope.names) i) ds S s.heap.objs.size (s.heap.push oI).objs.size St n s' k H1 S1 done vs c) ?turn ds.length ?start
    case start =>
      refine ⟨0, _, S, [], #[], 0, ⟨rfl, ?_, I₁, W₁, st0, gD, .nil, Nat.le_refl _, by simpa using hne, fun ys S' e => by simpa using e⟩⟩
      rw [hcl]; exact Ext.refl
    case turn =>
      rintro n s₅ ⟨k, H1, S1, done, vs, c, M⟩
      have hfr : H1.fr = [s.heap.objs.size, (s.heap.push oI).objs.size, cenv.locals] ++ H.fr := M.x.fr
      have inI : s.heap.objs.size ∈ H1.fr := by rw [hfr]; exact List.mem_cons_self ..
      have inD : (s.heap.push oI).objs.size ∈ H1.fr := by rw [hfr]; exact List.mem_cons_of_mem _ (List.mem_cons_self ..)
      have inC : cenv.locals ∈ H1.fr := by rw [hfr]; exact List.mem_cons_of_mem _ (List.mem_cons_of_mem _ (List.mem_cons_self ..))
      have hlen : vs.size = done.length := by rw [← M.rd.length]; simp
      cases n with
      | zero =>
        have hk : k = ds.length := by have := M.cnt; omega
        refine wpAny_size ((T.walks A hh).done s₅ _ _ (hk ▸ M.st) fun h' tk keep hz => ?_)
        have keep' : ∀ b o, b ≠ s.heap.objs.size → s₅.heap.get? b = some o → h'.get? b = some o := fun b o hb e => keep b o (by simpa using hb) e
        obtain ⟨m, hm, _⟩ := M.env.ns
        have nsub : ∀ b ∈ [cenv.locals] ++ H.fr, b ∈ H1.fr := fun b hb => by
          rw [hfr]
          rcases List.mem_append.mp hb with q | q
          · have q := List.mem_singleton.mp q; subst q; simp
          · exact List.mem_append_right _ q
        have frlt : ∀ b ∈ H.fr, b < s.heap.objs.size := fun b hb => I₀.ltF hb
        have Dnot : (s.heap.push oI).objs.size ∉ [cenv.locals] ++ H.fr := fun q => by
          rcases List.mem_append.mp q with q | q
          · have q := List.mem_singleton.mp q; rw [hcl] at q; exact nDC q
          · have := frlt _ q; rw [hD] at this; exact absurd this (Nat.not_lt.mpr (Nat.le_succ _))
        have Inot : ∀ b, (b ∉ H1.fr ∨ b ∈ (s.heap.push oI).objs.size :: ([cenv.locals] ++ H.fr)) → b ≠ s.heap.objs.size := by
          rintro b (q | q) rfl
          · exact q inI
          · rcases List.mem_cons.mp q with q | q
            · exact nID q
            · rcases List.mem_append.mp q with q | q
              · have q := List.mem_singleton.mp q; rw [hcl] at q; exact nIC q
              · exact absurd (frlt _ q) (Nat.lt_irrefl _)
        obtain ⟨d, S2, t, f1, f2, f3, f4⟩ := adopt (tk := tk) (h' := h') (fr := [cenv.locals] ++ H.fr) G.C pos M.inv inD Dnot M.lst (by rw [hlen]; exact Nat.le_trans M.few (by rw [hk]; exact T.len)) M.rd nsub
          (fun env he L hL => List.mem_append_right _ (hframes env he L hL)) (fun b o q e => keep' b o (Inot b q) e)
        refine hR _ _ _ (done ++ []) S1 d S2 _ m (by rw [hC]; exact Nat.le_add_right _ _) (M.rest [] S1 (by rw [hk, List.drop_length]; rfl)) (by rw [List.append_nil]; exact f1) ?_ f3 f4 ?_
        · rw [← hcl]
          obtain ⟨u, hu1, hu2⟩ := M.x.pre
          refine ⟨rfl, ⟨u ++ t, by show H1.ρ ++ t = H.ρ ++ (u ++ t); rw [hu1, List.append_assoc], fun b hb => ?_⟩, fun b o h1 h2 e => ?_, fun b o h2 h3 e => ?_, ?_⟩
          · rcases List.mem_append.mp hb with q | q
            · exact Nat.le_trans hsz (hu2 b q)
            · rw [f2 b q, hD]; exact Nat.le_succ _
          · have hb := Heap.lt_size e
            refine keep' b o (Nat.ne_of_lt hb) (M.x.keep b o h1 (fun q => ?_) (old b o e))
            rcases List.mem_append.mp q with q | q
            · exact absurd hb (Nat.not_lt.mpr (nsNew b (hcl ▸ q)))
            · exact h2 (List.mem_append_right _ q)
          · have hb := Heap.lt_size e
            have hbH : b ∈ H.fr := by
              rcases List.mem_append.mp h2 with q | q
              · exact absurd q h3
              · exact q
            obtain ⟨sl, e1, e2⟩ := M.x.keepF b o (List.mem_append_right _ hbH) (fun q => absurd hb (Nat.not_lt.mpr (nsNew b (hcl ▸ q)))) (old b o e)
            exact ⟨sl, keep' b _ (Nat.ne_of_lt hb) e1, e2⟩
          · exact Nat.le_trans hsz (Nat.le_trans M.x.size hz)
        · rw [← hcl]
          exact Ns.upto hm fun o q => ⟨o.slots, keep' _ _ (by rw [hcl]; exact Ne.symm nIC) q⟩
      | succ n =>
        have hk : k < ds.length := by have := M.cnt; omega
        refine wpAny_size ((T.walks A hh).item k s₅ _ _ hk M.st fun v h' tk p st' keep hz => ?_)
        have keep' : ∀ b o, b ≠ s.heap.objs.size → s₅.heap.get? b = some o → h'.get? b = some o := fun b o hb e => keep b o (by simpa using hb) e
        obtain ⟨d, hd, rv⟩ := T.item k v p
        have hdrop : ds.drop k = d :: ds.drop (k + 1) := by
          rw [List.drop_eq_getElem_cons hk]
          rw [List.getElem?_eq_getElem hk] at hd
          cases hd; rfl
        obtain ⟨J6, xI⟩ := M.inv.setF (tk := tk) inI keep' hz (let ⟨o, e⟩ := liveI _ _ st'; ⟨o, e, .inr fsI⟩)
        have sub1 : ∀ b ∈ [s.heap.objs.size], b ∈ [s.heap.objs.size, (s.heap.push oI).objs.size, cenv.locals] := by simp
        have x6 := M.x.trans (xI.mono sub1)
        have hOff : ∀ X : List Addr, (∀ b ∈ X, s.heap.objs.size ≤ b ∧ b ≠ cenv.locals) → EnvOff cenv (compSc sc scope) X := fun X hX =>
          ⟨fun q => (hX _ q).2 rfl, fun y j c q e z => by
            obtain ⟨j', q'⟩ := comp_cell hok q
            obtain ⟨c', f1, f2, _⟩ := V.cells y j' q'
            rw [← hce] at e
            have := clOf_up e
            rw [f1] at this; cases this
            exact absurd (I₀.ltF f2) (Nat.not_lt.mpr (hX _ z).1)⟩
        have V6 := M.env.stepX xI (hOff _ (by intro b hb; simp only [List.mem_singleton] at hb; subst hb; exact ⟨Nat.le_refl _, by rw [hcl]; exact nIC⟩))
        have rv6 := Rd.into old (hcl ▸ nsNew) x6 rv
        refine wpAny_assign_Name (put_local J6 V6 rv6 (comp_local hx) fun h7 tk7 x7 J7 V7 => ?_)
        have ne1 := M.ne
        rw [hdrop, compL_cons] at ne1
        have ne2 := bnd_inv ne1
        have gD7 : h7.get? (s.heap.push oI).objs.size = some (lstO vs c) :=
          x7.plain inD (by rw [hcl]; simpa using nDC) rfl (keep' _ _ (Ne.symm nID) M.lst)
        -- what the iterator stands on is kept
        have frame : ∀ {H9 : Hid} {h9 : Heap}, Ext [(s.heap.push oI).objs.size, cenv.locals] H1 h' H9 h9 → St (k + 1) h9 := fun y => by
          refine (T.walks A hh).frame (k + 1) _ _ st' fun b hb o e => ?_
          rcases T.fp b hb with rfl | ⟨b1, b2, o', b3⟩
          · obtain ⟨o', e', hp⟩ := T.live _ _ st'
            rw [e] at e'; cases e'
            exact y.plain inI (by rw [hcl]; simp only [List.mem_cons, List.not_mem_nil, or_false, not_or]; exact ⟨nID, nIC⟩) hp e
          · have hb' := Heap.lt_size b3
            refine y.keep b o (M.x.notin b1 (Nat.lt_of_lt_of_le hb' hsz)) (fun q => ?_) e
            rw [hfr] at q
            rcases List.mem_append.mp q with q | q
            · exact absurd hb' (Nat.not_lt.mpr (nsNew b (hcl ▸ q)))
            · exact b2 q
        have unset : ∀ (j : Nat) (e : D), (compSg sc σ scope.names)[j]? = some (some e) → (put (compSg sc σ scope.names) i d)[j]? = some (some e) := fun j e q => by
          have hj : j ≠ i := by
            rintro rfl
            rw [compSg_get hx] at q; cases q
          unfold put
          rw [List.getElem?_set_ne (Ne.symm hj)]; exact q
        have sub3 : ∀ b ∈ [cenv.locals], b ∈ [s.heap.objs.size, (s.heap.push oI).objs.size, cenv.locals] := by simp
        have sub2 : ∀ b ∈ [cenv.locals], b ∈ [(s.heap.push oI).objs.size, cenv.locals] := by simp
        have rd7 := (M.rd.step xI).step x7
        refine (ht J7 V7).then K ne2 fun ok b H8 S8 s8 e8 q8 n8 x8 J8 r8 => ?_
        cases r8
        cases ok with
        | false =>
          refine ⟨n, Nat.lt_succ_self _, k + 1, H8, S8, done, vs, c, ⟨by have := M.cnt; omega, (x6.trans (x7.mono sub3)).trans0 x8, J8, (V7.step x8).mono unset, frame ((x7.mono sub2).trans0 x8), x8.plain inD (by simp) rfl gD7, rd7.step x8, Nat.le_succ_of_le M.few, ?_, ?_⟩⟩
          · have q : turnM G.C cf ifs elt (compSc sc scope) (compSg sc σ scope.names) i d S1 = .ok none S8 := by
              unfold turnM; rw [bnd_at e8]; rfl
            rw [bnd_at q] at ne1
            exact bnd_inv ne1
          · intro ys S' e
            have q : turnM G.C cf ifs elt (compSc sc scope) (compSg sc σ scope.names) i d S1 = .ok none S8 := by
              unfold turnM; rw [bnd_at e8]; rfl
            refine M.rest ys S' ?_
            rw [hdrop, compL_cons, bnd_at q, bnd_at e]; rfl
        | true =>
          refine (he J8 (V7.step x8)).then K n8 fun y dy H9 S9 s9 e9 q9 n9 x9 J9 r9 => ?_
          have fr8 : H8.fr = H1.fr := x8.fr
          have fr9 : H9.fr = H1.fr := x9.fr.trans fr8
          have gD9 : s9.heap.get? (s.heap.push oI).objs.size = some (lstO vs c) := x9.plain (by rw [fr8]; exact inD) (by simp) rfl (x8.plain inD (by simp) rfl gD7)
          have hvs : vs.size < ds.length := by rw [hlen]; exact Nat.lt_of_le_of_lt M.few hk
          refine app_ok gD9 (Nat.le_of_lt (Nat.lt_of_lt_of_le hvs T.len)) fun h10 m' hs10 g10 => ?_
          obtain ⟨J10, x10⟩ := J9.setF (tk := s9.toks) (a := (s.heap.push oI).objs.size) (by rw [fr9]; exact inD) (fun b o hb e => (hs10.2 b hb).trans e) (Nat.le_of_eq hs10.1.symm) ⟨_, g10, .inr (I₀.noFrame fun q => absurd (I₀.ltF q) (by rw [Heap.size_push]; exact Nat.not_lt.mpr (Nat.le_succ _)))⟩
          have q : turnM G.C cf ifs elt (compSc sc scope) (compSg sc σ scope.names) i d S1 = .ok (some dy) S9 := by
            unfold turnM; rw [bnd_at e8, if_pos rfl, bnd_at e9]; rfl
          have sub4 : ∀ b ∈ [(s.heap.push oI).objs.size], b ∈ [s.heap.objs.size, (s.heap.push oI).objs.size, cenv.locals] := by simp
          have sub5 : ∀ b ∈ [(s.heap.push oI).objs.size], b ∈ [(s.heap.push oI).objs.size, cenv.locals] := by simp
          refine ⟨n, Nat.lt_succ_self _, k + 1, H9, S9, done ++ [dy], vs.push y, m', ⟨by have := M.cnt; omega, (((x6.trans (x7.mono sub3)).trans0 x8).trans0 x9).trans (x10.mono sub4), J10,
            EnvOk.mono (s := { s9 with heap := h10, toks := s9.toks }) (((V7.step x8).step x9).stepX x10 (hOff _ (by intro b hb; simp only [List.mem_singleton] at hb; subst hb; exact ⟨by rw [hD]; exact Nat.le_succ _, by rw [hcl]; exact nDC⟩))) unset,
            frame ((((x7.mono sub2).trans0 x8).trans0 x9).trans (x10.mono sub5)), g10, ?_, ?_, ?_, ?_⟩⟩
          · have := (((rd7.step x8).step x9).step x10).append (.cons (r9.step x10) .nil)
            simpa using this
          · simp only [List.length_append, List.length_cons, List.length_nil]
            exact Nat.succ_le_succ M.few
          · rw [bnd_at q] at ne1
            exact bnd_inv ne1
          · intro ys S' e
            have := M.rest (dy :: ys) S' (by rw [hdrop, compL_cons, bnd_at q, bnd_at e]; rfl)
            simpa using this
  subst hce
  exact codeAny_compStart_list loop ((T.walks A hh).self 0 _ _ _ st0 loop)
end
end Mine
end

section
set_option maxRecDepth 100000
namespace Mine
open PySem

section
variable {G : Glo} {fs : List Env} {A : Around} {cf : Str → List D → EM D} {r : Nat} {H H2 : Hid} {S S2 : Store} {s s' : Shared} {env : Env} {sc scope : Scope} {σ : Sg}

theorem leave_one {C : Addr} {X Y : List Addr} {h'' : Heap} (I₀ : Inv G fs H S s) (hC : s.heap.objs.size ≤ C) (hX : ∀ b ∈ X, b ∈ [C] ∨ b ∈ Y) (x : Ext X ⟨H.ρ, [C] ++ H.fr⟩ s.heap H2 s'.heap) (J : Inv G fs H2 S2 s') (hs : Heap.SameBut C s'.heap h'') :
    Ext Y H s.heap ⟨H2.ρ, H.fr⟩ h'' ∧ Inv G fs ⟨H2.ρ, H.fr⟩ S2 { s' with heap := h'' } ∧ (∀ v d, Rd G.P H2 s'.heap v d → Rd G.P ⟨H2.ρ, H.fr⟩ h'' v d) := by
  have inC : C ∈ H2.fr := by rw [x.fr]; simp
  have hf : ∀ b ∈ H.fr, b ∈ H2.fr := fun b hb => by rw [x.fr]; exact List.mem_append_right _ hb
  have ne : ∀ b, (b ∉ H2.fr ∨ b ∈ H.fr) → b ≠ C := by
    rintro b (q | q) rfl
    · exact q inC
    · exact absurd (I₀.ltF q) (Nat.not_lt.mpr hC)
  have hk : ∀ b o, (b ∉ H2.fr ∨ b ∈ H.fr) → s'.heap.get? b = some o → h''.get? b = some o := fun b o q e => (hs.2 b (ne b q)).trans e
  refine ⟨?_, J.leave (tk := s'.toks) hf I₀.frames hk, fun v d q => Rd.ext (H := H2) (H' := ⟨H2.ρ, H.fr⟩) (fun b o h1 h2 e => ⟨h1, fun z => h2 (hf b z), hk b o (.inl h2) e⟩) (fun _ _ e => e) q⟩
  exact Ext.around' (fun _ _ e => e) (Nat.le_refl _) (by intro b hb; simp only [List.mem_singleton] at hb; subst hb; exact hC) hX x (fun b o hb e => (hs.2 b (by simpa using hb)).trans e) (Nat.le_of_eq hs.1.symm)

theorem evComp_eq {C : Cfg} {x : Str} {px pos : Pos} {iter elt : Expr} {ifs : List Expr} : ev C cf (.ListComp elt [⟨.Name x px, iter, ifs, 0⟩] scope pos) sc σ = if compOk sc scope then bnd (ev C cf iter sc σ) fun it => bnd (optM (itemsOf it)) fun ds =>
      (match slot scope.names x with
      | some (i, .local) => bnd (compL (turnM C cf ifs elt (compSc sc scope) (compSg sc σ scope.names) i) ds) fun ys => mkList C pos ys
      | _ => stk) else stk := rfl

/-- up to the point where the list is made -/
theorem comp_run (K : G.Ok) (X : Cxt G fs A r) {elt iter : Expr} {x : Str} {px pos : Pos} {ifs : List Expr} (hi : EvOk G fs A cf iter) (ht : TestsOk G fs A cf ifs) (he : EvOk G fs A cf elt) (I : Inv G fs H S s) (V : EnvOk G H s.heap env sc σ)
    (hne : ev G.C cf (.ListComp elt [⟨.Name x px, iter, ifs, 0⟩] scope pos) sc σ S ≠ .stuck) {cpos : Pos} {use : Option (Value → Sem Unit)} {Q : Value → Shared → Prop} {E : Value → Shared → Prop}
    (hQ : ∀ D C s1 H1 S1 s' d S2 H2 m, Ext [] H s.heap H1 s1.heap → Inv G fs H1 S1 s1 → s1.heap.objs.size ≤ C → ev G.C cf (.ListComp elt [⟨.Name x px, iter, ifs, 0⟩] scope pos) sc σ S = .ok d S2 → Ext [C] ⟨H1.ρ, [C] ++ H1.fr⟩ s1.heap H2 s'.heap → Inv G fs H2 S2 s' →
      Rd G.P H2 s'.heap (.ref D) d → s'.heap.Ns C m → compPost G.M A E use Q (.ref D) C (.ok .next) s') :
    wpAny G.M A (comprehension (.ListComp elt [⟨.Name x px, iter, ifs, 0⟩] scope pos) scope env cpos (newList []) false (eval iter env) use) Q E s := by
  rw [evComp_eq] at hne hQ
  by_cases hok : compOk sc scope = true
  · rw [if_pos hok] at hne hQ
    obtain ⟨k1, k2, k3, k4⟩ := compOk_inv hok
    have hcl : closureFor scope env = pure (clOf env.cells scope.names []) := closure_ok fun p hp q => by
      obtain ⟨j, e⟩ := k4 p hp q
      obtain ⟨c, e1, _⟩ := V.cells p.1 j e
      exact ⟨c, e1⟩
    refine wpAny_comprehension_free rfl (folded hne env) hcl k1 k3 ((hi I V).then K hne fun v it H1 S1 s1 e1 q1 n1 x1 I1 r1 => ?_)
    rw [q1] at hQ
    cases hds : itemsOf it with
    | none => rw [hds] at n1; exact absurd rfl n1
    | some ds =>
      have q2 : ∀ f : List D → EM D, bnd (optM (some ds)) f S1 = f ds S1 := fun f => rfl
      rw [hds, q2] at n1 hQ
      cases hx : slot scope.names x with
      | none => rw [hx] at n1; exact absurd rfl n1
      | some p =>
        obtain ⟨i, k⟩ := p
        rw [hx] at n1 hQ
        cases k with
        | «local» =>
          dsimp only at n1 hQ
          refine iter_ok r1 hds fun o fp P St T => ?_
          refine comp_core K X.handled ht he I1 (V.step x1) hok hx T (bnd_inv n1) (RRp := fun acc C => compPost G.M A E use Q acc C) fun D C s' done S1' d S2 H2 m hC hd hm x2 I2 r2 hn => ?_
          exact hQ D C s1 H1 S1 s' d S2 H2 m x1 I1 hC (by rw [bnd_at hd]; exact hm) x2 I2 r2 hn
        | _ => exact absurd rfl n1
  · rw [if_neg hok] at hne; exact absurd rfl hne

theorem comp_arm (K : G.Ok) (X : Cxt G fs A r) {elt iter : Expr} {x : Str} {px pos : Pos} {ifs : List Expr} (hi : EvOk G fs A cf iter) (ht : TestsOk G fs A cf ifs) (he : EvOk G fs A cf elt) : EvOk G fs A cf (.ListComp elt [⟨.Name x px, iter, ifs, 0⟩] scope pos) := by
  intro H S s env sc σ I V hne
  rw [eval_ListComp]
  refine comp_run K X hi ht he I V hne fun D C s1 H1 S1 s' d S2 H2 m x1 I1 hC he x2 I2 r2 hn => ?_
  refine ⟨m, hn, fun h'' hs => ?_⟩
  obtain ⟨y1, y2, y3⟩ := leave_one (Y := []) I1 hC (fun b hb => .inl hb) x2 I2 hs
  exact ⟨d, S2, _, he, x1.trans y1, y2, y3 _ _ r2⟩
end
end Mine
end

section
set_option maxRecDepth 100000
namespace Mine
open PySem

section
variable {G : Glo} {fs : List Env} {A : Around} {cf : Str → List D → EM D} {r : Nat}

theorem ev_stk {e : Expr} (h : ∀ sc σ S, ev G.C cf e sc σ S = .stuck) : EvOk G fs A cf e := fun _ _ => Wp.stuck (h _ _ _)
theorem name_arm (K : G.Ok) (x : Str) (pos : Pos) : EvOk G fs A cf (.Name x pos) := by
  intro H S s env sc σ I V
  rw [q_name]
  exact name_ok K I V x pos
theorem bnd_stuck {α β : Type} {m : EM α} {f : α → EM β} {S : Store} (h : m S = .stuck) : bnd m f S = .stuck := by unfold bnd; rw [h]

structure EAll (G : Glo) (fs : List Env) (A : Around) (cf : Str → List D → EM D) (e : Expr) : Prop where
  ev : EvOk G fs A cf e
  t : TOk G fs A cf e
  attr : ∀ o m p, e = .Attribute o m p → EvOk G fs A cf o
  sub : ∀ v pos, EvOk G fs A cf v → EvOk G fs A cf (.Subscript v e pos)
  in1 : ∀ f e' kws pos, e = .Call f [e'] kws pos → EvOk G fs A cf e'

structure LAll (G : Glo) (fs : List Env) (A : Around) (cf : Str → List D → EM D) (es : List Expr) : Prop where
  all : AllOk G fs A cf es
  bools : BoolsOk G fs A cf es
  cmp : CmpOk G fs A cf es
  chain : ChainOk G fs A cf es
  tall : TAllOk G fs A cf es
  tests : TestsOk G fs A cf es
  first : ∀ e t p, es = [e, .Name t p] → EvOk G fs A cf e
  one : ∀ e, es = [e] → EvOk G fs A cf e
  rev : ∀ e g gp rp, es = [.Call (.Name g gp) [e] [] rp] → EvOk G fs A cf e

theorem EAll.val (K : G.Ok) {e : Expr} (he : EvOk G fs A cf e) (h1 : ∀ env whole, isTrue e env whole = (do let v ← whole; standAt e.pos; holding [v] (truthy v))) (h2 : ∀ sc σ w, evT G.C cf e sc σ w = bnd w truthM)
    (ha : ∀ o m p, e ≠ .Attribute o m p) (hs : ∀ lo hi st p, e ≠ .Slice lo hi st p) (h3 : ∀ f e' kws pos, e = .Call f [e'] kws pos → EvOk G fs A cf e' := by intro _ _ _ _ h; cases h) : EAll G fs A cf e :=
  ⟨he, valT_arm K h1 h2 he, fun o m p q => absurd q (ha o m p), fun _ _ hv => item_arm K hs hv he, h3⟩
theorem EAll.test (K : G.Ok) {e : Expr} (he : EvOk G fs A cf e) (ht : TOk G fs A cf e)
    (ha : ∀ o m p, e ≠ .Attribute o m p) (hs : ∀ lo hi st p, e ≠ .Slice lo hi st p) (h3 : ∀ f e' kws pos, e = .Call f [e'] kws pos → EvOk G fs A cf e' := by intro _ _ _ _ h; cases h) : EAll G fs A cf e :=
  ⟨he, ht, fun o m p q => absurd q (ha o m p), fun _ _ hv => item_arm K hs hv he, h3⟩
theorem EAll.no (K : G.Ok) {e : Expr} (h : ∀ sc σ S, Mine.ev G.C cf e sc σ S = .stuck) (h2 : ∀ sc σ w, evT G.C cf e sc σ w = bnd w truthM)
    (ha : ∀ o m p, e ≠ .Attribute o m p) (hs : ∀ lo hi st p, e ≠ .Slice lo hi st p) (h3 : ∀ f e' kws pos, e = .Call f [e'] kws pos → EvOk G fs A cf e' := by intro _ _ _ _ h; cases h) : EAll G fs A cf e :=
  EAll.test K (ev_stk h) (fun _ _ => Wp.stuck (by rw [h2]; exact bnd_stuck (h _ _ _))) ha hs h3

theorem slice_no (K : G.Ok) {v : Expr} {lo hi : Option Expr} {st : Expr} {p pos : Pos} (hv : EvOk G fs A cf v) : EvOk G fs A cf (.Subscript v (.Slice lo hi (some st) p) pos) := by
  intro H S s env sc σ I V
  rw [q_sub]
  have he : ∀ a w, evSub G.C cf (.Slice lo hi (some st) p) sc σ a pos w = stk := fun _ _ => rfl
  intro hne
  simp only [he] at hne ⊢
  exact PyProof.Rows.Subscript_ ((hv I V).then K hne fun v d H1 S1 s1 e1 q1 n1 x1 I1 r1 => absurd rfl n1)

theorem gen_arm (K : G.Ok) (X : Cxt G fs A r) {elt t iter : Expr} {scope : Scope} {pos : Pos} {ifs : List Expr} {a : Int} (hi : EvOk G fs A cf iter) (ht : TestsOk G fs A cf ifs) (he : EvOk G fs A cf elt) : EvOk G fs A cf (.ListComp elt [⟨t, iter, ifs, a⟩] scope pos) := by
  cases t with
  | Name x px =>
    by_cases ha : a = 0
    · subst ha; exact comp_arm K X hi ht he
    · refine ev_stk fun sc σ S => ?_
      match a, ha with
      | .ofNat 0, ha => exact absurd rfl ha
      | .ofNat (n + 1), _ => rfl
      | .negSucc n, _ => rfl
  | _ => exact ev_stk fun _ _ _ => rfl

variable (K : G.Ok) (X : Cxt G fs A r) (hcf : CfOk G cf r)
include K X hcf

mutual
theorem e_all : ∀ e : Expr, EAll G fs A cf e
  | .Constant c k pos => EAll.val K (const_ok c k pos) (fun _ _ => rfl) (fun _ _ _ => rfl) (fun _ _ _ h => nomatch h) (fun _ _ _ _ h => nomatch h)
  | .Name x pos => EAll.val K (name_arm K x pos) (fun _ _ => rfl) (fun _ _ _ => rfl) (fun _ _ _ h => nomatch h) (fun _ _ _ _ h => nomatch h)
  | .BoolOp op es pos => EAll.test K (bool_arm (l_all es).bools) (boolT_arm (l_all es).tall) (fun _ _ _ h => nomatch h) (fun _ _ _ _ h => nomatch h)
  | .BinOp l op rr pos => EAll.val K (binop_arm K X (e_all l).ev (e_all rr).ev) (fun _ _ => rfl) (fun _ _ _ => rfl) (fun _ _ _ h => nomatch h) (fun _ _ _ _ h => nomatch h)
  | .UnaryOp op x pos => EAll.test K (unop_arm K (e_all x).ev) (match op with
    | .Not => not_arm K (e_all x).t
    | .UAdd => valT_arm K (fun _ _ => rfl) (fun _ _ _ => rfl) (unop_arm K (e_all x).ev)
    | .USub => valT_arm K (fun _ _ => rfl) (fun _ _ _ => rfl) (unop_arm K (e_all x).ev)
    | .Invert => valT_arm K (fun _ _ => rfl) (fun _ _ _ => rfl) (unop_arm K (e_all x).ev)) (fun _ _ _ h => nomatch h) (fun _ _ _ _ h => nomatch h)
  | .Compare l ops rs pos => EAll.test K (cmp_arm K (e_all l).ev (l_all rs).cmp) (cmpT_arm K (e_all l).ev (l_all rs).chain) (fun _ _ _ h => nomatch h) (fun _ _ _ _ h => nomatch h)
  | .Tuple es k pos => EAll.val K (tuple_arm K (l_all es).all) (fun _ _ => rfl) (fun _ _ _ => rfl) (fun _ _ _ h => nomatch h) (fun _ _ _ _ h => nomatch h)
  | .List es pos => EAll.val K (list_arm K (l_all es).all) (fun _ _ => rfl) (fun _ _ _ => rfl) (fun _ _ _ h => nomatch h) (fun _ _ _ _ h => nomatch h)
  | .Subscript v sl pos => EAll.val K ((e_all sl).sub v pos (e_all v).ev) (fun _ _ => rfl) (fun _ _ _ => rfl) (fun _ _ _ h => nomatch h) (fun _ _ _ _ h => nomatch h)
  | .ListComp elt gens scope pos => EAll.val K (g_all gens elt scope pos (e_all elt).ev) (fun _ _ => rfl) (fun _ _ _ => rfl) (fun _ _ _ h => nomatch h) (fun _ _ _ _ h => nomatch h)
  | .Call f l kws pos => EAll.val K (call_arm K X hcf (e_all f).attr (l_all l).all (l_all l).first (l_all l).rev) (fun _ _ => rfl) (fun _ _ _ => rfl) (fun _ _ _ h => nomatch h) (fun _ _ _ _ h => nomatch h) (fun _ e' _ _ q => (l_all l).one e' (by cases q; rfl))
  | .Attribute o m p => ⟨ev_stk fun _ _ _ => rfl, fun _ _ => Wp.stuck rfl, fun o' m' p' q => by cases q; exact (e_all o).ev, fun _ _ hv => item_arm K (fun _ _ _ _ h => by cases h) hv (ev_stk fun _ _ _ => rfl), fun _ _ _ _ h => nomatch h⟩
  | .Slice lo hi st p => ⟨ev_stk fun _ _ _ => rfl, fun _ _ => Wp.stuck rfl, (fun _ _ _ h => nomatch h), fun _ _ hv => match st with
    | none => slice_arm K hv (o_all lo) (o_all hi)
    | some _ => slice_no K hv, fun _ _ _ _ h => nomatch h⟩
  | .IfExp .. => EAll.test K (ev_stk fun _ _ _ => rfl) (fun _ _ => Wp.stuck rfl) (fun _ _ _ h => nomatch h) (fun _ _ _ _ h => nomatch h)
  | .NamedExpr .. => EAll.no K (fun _ _ _ => rfl) (fun _ _ _ => rfl) (fun _ _ _ h => nomatch h) (fun _ _ _ _ h => nomatch h)
  | .Lambda .. => EAll.no K (fun _ _ _ => rfl) (fun _ _ _ => rfl) (fun _ _ _ h => nomatch h) (fun _ _ _ _ h => nomatch h)
  | .Dict keys values pos => EAll.val K (fun I _ => dict_ok K I) (fun _ _ => rfl) (fun _ _ _ => rfl) (fun _ _ _ h => nomatch h) (fun _ _ _ _ h => nomatch h)
  | .Set .. => EAll.no K (fun _ _ _ => rfl) (fun _ _ _ => rfl) (fun _ _ _ h => nomatch h) (fun _ _ _ _ h => nomatch h)
  | .SetComp .. => EAll.no K (fun _ _ _ => rfl) (fun _ _ _ => rfl) (fun _ _ _ h => nomatch h) (fun _ _ _ _ h => nomatch h)
  | .DictComp .. => EAll.no K (fun _ _ _ => rfl) (fun _ _ _ => rfl) (fun _ _ _ h => nomatch h) (fun _ _ _ _ h => nomatch h)
  | .GeneratorExp .. => EAll.no K (fun _ _ _ => rfl) (fun _ _ _ => rfl) (fun _ _ _ h => nomatch h) (fun _ _ _ _ h => nomatch h)
  | .Await .. => EAll.no K (fun _ _ _ => rfl) (fun _ _ _ => rfl) (fun _ _ _ h => nomatch h) (fun _ _ _ _ h => nomatch h)
  | .Yield .. => EAll.no K (fun _ _ _ => rfl) (fun _ _ _ => rfl) (fun _ _ _ h => nomatch h) (fun _ _ _ _ h => nomatch h)
  | .YieldFrom .. => EAll.no K (fun _ _ _ => rfl) (fun _ _ _ => rfl) (fun _ _ _ h => nomatch h) (fun _ _ _ _ h => nomatch h)
  | .FormattedValue .. => EAll.no K (fun _ _ _ => rfl) (fun _ _ _ => rfl) (fun _ _ _ h => nomatch h) (fun _ _ _ _ h => nomatch h)
  | .JoinedStr .. => EAll.no K (fun _ _ _ => rfl) (fun _ _ _ => rfl) (fun _ _ _ h => nomatch h) (fun _ _ _ _ h => nomatch h)
  | .Starred .. => EAll.no K (fun _ _ _ => rfl) (fun _ _ _ => rfl) (fun _ _ _ h => nomatch h) (fun _ _ _ _ h => nomatch h)
theorem l_all : ∀ es : List Expr, LAll G fs A cf es
  | [] => ⟨all_nil, bools_nil, cmp_nil, chain_nil, tall_nil, tests_nil, (fun _ _ _ h => nomatch h), (fun _ h => nomatch h), (fun _ _ _ _ h => nomatch h)⟩
  | e :: es => ⟨all_cons K (e_all e).ev (l_all es).all, bools_cons K (e_all e).ev (l_all es).bools, cmp_cons K (by have := X.units; omega) (e_all e).ev (l_all es).cmp, chain_cons K X (e_all e).ev (l_all es).chain,
    tall_cons K (e_all e).t (l_all es).tall, tests_cons K (e_all e).t (l_all es).tests, (fun e' t p q => by cases q; exact (e_all e).ev), (fun e' q => by cases q; exact (e_all e).ev), fun e' g gp rp q => (e_all e).in1 (.Name g gp) e' [] rp (by cases q; rfl)⟩
theorem o_all : ∀ o : Option Expr, OptOk G fs A cf o
  | none => opt_none
  | some e => opt_some (e_all e).ev
theorem g_all : ∀ (gs : List Comprehension) (elt : Expr) (scope : Scope) (pos : Pos), EvOk G fs A cf elt → EvOk G fs A cf (.ListComp elt gs scope pos)
  | [], _, _, _, _ => ev_stk fun _ _ _ => rfl
  | [⟨t, iter, ifs, a⟩], elt, scope, pos, he => gen_arm K X (e_all iter).ev (l_all ifs).tests he
  | ⟨t, iter, ifs, a⟩ :: g2 :: l, elt, scope, pos, _ => by
    refine ev_stk fun _ _ _ => ?_
    cases t <;> first | rfl | skip
    all_goals (match a with
      | .ofNat 0 => rfl
      | .ofNat (n + 1) => rfl
      | .negSucc n => rfl)
end
end
end Mine
end

section
set_option maxRecDepth 100000
namespace Mine
open PySem

theorem bnd_assoc' {α β γ : Type} (m : EM α) (f : α → EM β) (g : β → EM γ) : bnd (bnd m f) g = bnd m fun a => bnd (f a) g := by
  funext S
  unfold bnd
  cases m S <;> rfl

/-- how a statement ends -/
noncomputable def FlR (G : Glo) (env : Env) (sc : Scope) (H : Hid) (h : Heap) : Flow → Fl → Prop
  | .next, .next σ => EnvOk G H h env sc σ
  | .ret v, .ret d => Rd G.P H h v d
  | _, _ => False

noncomputable def Post (G : Glo) (fs : List Env) (env : Env) (sc : Scope) (H : Hid) (h : Heap) (r : Out Fl) (f : Flow) (s' : Shared) : Prop :=
  ∃ fl S' H', r = .ok fl S' ∧ Ext (xs env) H h H' s'.heap ∧ Inv G fs H' S' s' ∧ FlR G env sc H' s'.heap f fl

section
variable (G : Glo) (fs : List Env) (A : Around) (cf : Str → List D → EM D)
structure SOk (st : Stmt) : Prop where
  go : ∀ {H : Hid} {S : Store} {s : Shared} {env : Env} {sc : Scope} {σ : Sg}, (∃ l, fs = env :: l) → Inv G fs H S s → EnvOk G H s.heap env sc σ → ex G.C cf st sc σ S ≠ .stuck →
    wpAny G.M A (exec st env) (Post G fs env sc H s.heap (ex G.C cf st sc σ S)) (PX G fs (xs env) H s.heap (ex G.C cf st sc σ S)) s
structure BOk (b : List Stmt) : Prop where
  go : ∀ {H : Hid} {S : Store} {s : Shared} {env : Env} {sc : Scope} {σ : Sg}, (∃ l, fs = env :: l) → Inv G fs H S s → EnvOk G H s.heap env sc σ → exs G.C cf b sc σ S ≠ .stuck →
    wpAny G.M A (execs b env) (Post G fs env sc H s.heap (exs G.C cf b sc σ S)) (PX G fs (xs env) H s.heap (exs G.C cf b sc σ S)) s
end

section
variable {G : Glo} {fs : List Env} {A : Around} {cf : Str → List D → EM D} {r : Nat} {H : Hid} {S : Store} {s : Shared} {env : Env} {sc : Scope} {σ : Sg}

theorem Post.trans {h : Heap} {H1 : Hid} {h1 : Heap} {m : Out Fl} {f : Flow} {s' : Shared} (x : Ext (xs env) H h H1 h1) (p : Post G fs env sc H1 h1 m f s') : Post G fs env sc H h m f s' := by
  obtain ⟨c, S', H', a, b, d⟩ := p
  exact ⟨c, S', H', a, x.trans b, d⟩

/-- what may raise, in front of a next step -/
noncomputable def WX (G : Glo) (fs : List Env) (A : Around) {α' α : Type} (R : Hid → Heap → α' → α → Prop) (H : Hid) (S : Store) (s : Shared) (t : Sem α') (m : EM α) : Prop :=
  m S ≠ .stuck → wpAny G.M A t (PV G fs R H s.heap (m S)) (PX G fs [] H s.heap (m S)) s
theorem WX.of {α' α : Type} {R : Hid → Heap → α' → α → Prop} {t : Sem α'} {m : EM α} (h : Wp G fs A R H S s t m) : WX G fs A R H S s t m := fun hne => wpAny_mono (h hne) (fun _ _ p => p) fun _ _ p => p.elim
theorem WX.then {α' α β : Type} {R : Hid → Heap → α' → α → Prop} {X : List Addr} {t : Sem α'} {m : EM α} {f : α → EM β} {Q : α' → Shared → Prop} (h : WX G fs A R H S s t m) (hne : bnd m f S ≠ .stuck)
    (hQ : ∀ v a H1 S1 s1, m S = .ok a S1 → bnd m f S = f a S1 → f a S1 ≠ .stuck → Ext [] H s.heap H1 s1.heap → Inv G fs H1 S1 s1 → R H1 s1.heap v a → Q v s1) : wpAny G.M A t Q (PX G fs X H s.heap (bnd m f S)) s :=
  wpAny_mono (h (bnd_inv hne)) (fun v s1 p => by
    obtain ⟨a, S1, H1, e1, x, i, r⟩ := p
    exact hQ v a H1 S1 s1 e1 (bnd_at e1) (by rw [← bnd_at (f := f) e1]; exact hne) x i r) fun _ _ p => p.widen.bnd
theorem callOf_inv {e : Expr} {x : Str} {as : List Expr} {kws : List Keyword} (h : callOf e = some (x, as, kws)) : ∃ np pos, e = .Call (.Name x np) as kws pos := by
  unfold callOf at h
  split at h
  · cases h; exact ⟨_, _, rfl⟩
  · cases h
theorem oneOf_inv {e e' : Expr} (h : oneOf e = some e') : ∃ k pos, e = .Tuple [e'] k pos := by
  unfold oneOf at h
  split at h
  · cases h; exact ⟨_, _, rfl⟩
  · cases h
theorem evC_ok (K : G.Ok) (X : Cxt G fs A r) (hcf : CfOk G cf r) (e : Expr) (I : Inv G fs H S s) (V : EnvOk G H s.heap env sc σ) : WX G fs A (RR G) H S s (eval e env) (evC G.C cf e sc σ) := by
  unfold evC
  cases hc : callOf e with
  | none =>
    dsimp only
    by_cases hz : (notComp e && G.C.frz e.pos) = true
    · rw [if_pos hz]; exact WX.of (frz_ok (fun I V => (e_all K X hcf e).ev I V) I V)
    · rw [if_neg hz]; exact WX.of ((e_all K X hcf e).ev I V)
  | some o =>
    obtain ⟨x, as, kws⟩ := o
    dsimp only
    by_cases hd : directC G.C sc x as kws = true
    · rw [if_pos hd]
      obtain ⟨np, pos, rfl⟩ := callOf_inv hc
      unfold directC at hd
      simp only [Bool.and_eq_true, List.isEmpty_iff] at hd
      obtain ⟨⟨⟨rfl, h2⟩, h3⟩, h4⟩ := hd
      obtain ⟨fn, hf⟩ := Option.isSome_iff_exists.mp h4
      exact fcallX K X hcf (l_all K X hcf as).all I V h3 h2 hf
    · rw [if_neg hd]; exact WX.of ((e_all K X hcf e).ev I V)
theorem evC_star {e' : Expr} {p : Pos} : evC G.C cf (.Starred e' p) sc σ S = .stuck := by
  have q : evC G.C cf (.Starred e' p) sc σ = if notComp (.Starred e' p) && G.C.frz (Expr.pos (.Starred e' p)) then frzS (fun σ => ev G.C cf (.Starred e' p) sc σ) σ else ev G.C cf (.Starred e' p) sc σ := rfl
  rw [q]
  split <;> rfl
theorem evX_ok (K : G.Ok) (X : Cxt G fs A r) (hcf : CfOk G cf r) (e : Expr) (I : Inv G fs H S s) (V : EnvOk G H s.heap env sc σ) : WX G fs A (RR G) H S s (eval e env) (evX G.C cf e sc σ) := by
  unfold evX
  cases ho : oneOf e with
  | none => exact evC_ok K X hcf e I V
  | some e' =>
    obtain ⟨k, pos, rfl⟩ := oneOf_inv ho
    dsimp only
    rw [bnd_assoc']
    intro hne
    have ns : ∀ e'' p, e' ≠ .Starred e'' p := by rintro e'' p rfl; exact bnd_inv hne evC_star
    refine wpAny_Tuple (wpAny_items_cons ((evC_ok K X hcf e' I V).then hne fun v d H1 S1 s1 e1 q1 n1 x1 I1 r1 => ?_) (star_cons ns [] env))
    rw [q1]
    have q2 : bnd (bnd (ret []) fun ds => ret (d :: ds)) (fun ds : List D => if ds.length ≤ sizeLine then ret (D.tuple ds) else stk) S1 = if [d].length ≤ sizeLine then ret (D.tuple [d]) S1 else .stuck := by
      show (if [d].length ≤ sizeLine then ret (D.tuple [d]) else stk) S1 = _
      split <;> rfl
    rw [q2] at n1 ⊢
    have hz : [v].length ≤ sizeLine := by show 1 ≤ sizeLine; decide
    rw [if_pos (show [d].length ≤ sizeLine from hz)]
    exact wpAny_items_nil ⟨hz, (newTuple_ok (tk := s1.toks) I1 (.cons r1 .nil) hz).trans x1⟩

theorem pass_arm (pos : Pos) : SOk G fs A cf (.Pass pos) := by
  constructor
  intro H S s env sc σ F0 I V hne
  exact wpAny_Pass ⟨.next σ, S, H, rfl, Ext.refl, I, V⟩
theorem ret_arm (K : G.Ok) (X : Cxt G fs A r) (hcf : CfOk G cf r) {e : Expr} {pos : Pos} : SOk G fs A cf (.Return (some e) pos) := by
  constructor
  intro H S s env sc σ F0 I V
  have q : ex G.C cf (.Return (some e) pos) sc σ = bnd (evX G.C cf e sc σ) fun d => ret (.ret d) := rfl
  rw [q]
  intro hne
  refine wpAny_Return_some ((evX_ok K X hcf e I V).then hne fun v d H1 S1 s1 e1 q1 n1 x1 I1 r1 => ?_)
  rw [q1]
  exact ⟨.ret d, S1, H1, rfl, x1.weaken, I1, r1⟩
theorem ret0_arm {pos : Pos} : SOk G fs A cf (.Return none pos) := by
  constructor
  intro H S s env sc σ F0 I V hne
  exact wpAny_Return_none ⟨.ret .none, S, H, rfl, Ext.refl, I, .none⟩

theorem inter_no (V : EnvOk G H s.heap env sc σ) : interactive env = false := by
  unfold interactive
  rw [V.scope, V.kind]; rfl
theorem swaps_no {e : Expr} {t : Option Expr} {n : Nat} {env : Env} (h : notComp e = true) : swapsWith e t n env = pure false := by
  cases e <;> first | rfl | cases h

theorem expr_arm (K : G.Ok) (X : Cxt G fs A r) (hcf : CfOk G cf r) {e : Expr} {pos : Pos} : SOk G fs A cf (.Expr e pos) := by
  constructor
  intro H S s env sc σ F0 I V
  have q : ex G.C cf (.Expr e pos) sc σ = if notComp e then bnd (evC G.C cf e sc σ) fun _ => ret (.next σ) else stk := rfl
  rw [q]
  intro hne
  by_cases hc : notComp e = true
  · rw [if_pos hc] at hne ⊢
    refine wpAny_Expr_any ((evC_ok K X hcf e I V).then hne fun v d H1 S1 s1 e1 q1 n1 x1 I1 r1 => ?_) (inter_no V) (swaps_no hc)
    rw [q1]
    exact ⟨.next σ, S1, H1, rfl, x1.weaken, I1, V.step x1⟩
  · rw [if_neg hc] at hne; exact absurd rfl hne

theorem if_arm (K : G.Ok) {t : Expr} {b o : List Stmt} {pos : Pos} (ht : TOk G fs A cf t) (hb : BOk G fs A cf b) (ho : BOk G fs A cf o) : SOk G fs A cf (.If t b o pos) := by
  constructor
  intro H S s env sc σ F0 I V
  rw [q_if]
  intro hne
  refine wpAny_If ((ht I V).then K hne fun v d H1 S1 s1 e1 q1 n1 x1 I1 r1 => ?_)
  rw [q1]
  cases r1
  cases v with
  | true => exact wpAny_mono (hb.go F0 I1 (V.step x1) n1) (fun _ _ p => p.trans x1.weaken) fun _ _ p => p.trans x1.weaken
  | false => exact wpAny_mono (ho.go F0 I1 (V.step x1) n1) (fun _ _ p => p.trans x1.weaken) fun _ _ p => p.trans x1.weaken

theorem execs_nil : BOk G fs A cf [] := by
  constructor
  intro H S s env sc σ F0 I V hne
  exact wpAny_execs_nil ⟨.next σ, S, H, rfl, Ext.refl, I, V⟩
theorem execs_cons {st : Stmt} {b : List Stmt} (hs : SOk G fs A cf st) (hb : BOk G fs A cf b) : BOk G fs A cf (st :: b) := by
  constructor
  intro H S s env sc σ F0 I V
  rw [show exs G.C cf (st :: b) sc σ = bnd (ex G.C cf st sc σ) fun f => match f with
    | .next σ' => exs G.C cf b sc σ'
    | .ret d => ret (.ret d) from rfl]
  intro hne
  refine wpAny_execs_cons (wpAny_mono (hs.go F0 I V (bnd_inv hne)) (fun f s1 p => ?_) fun _ _ p => p.bnd)
  obtain ⟨fl, S1, H1, e1, x1, I1, r1⟩ := p
  rw [bnd_at e1] at hne ⊢
  cases fl with
  | next σ1 =>
    cases f with
    | next => exact wpAny_mono (hb.go F0 I1 r1 hne) (fun _ _ p => p.trans x1) fun _ _ p => p.trans x1
    | _ => exact r1.elim
  | ret d =>
    cases f with
    | ret v => exact ⟨.ret d, S1, H1, rfl, x1, I1, r1⟩
    | _ => exact r1.elim

/-- a name bound, the value known -/
theorem bind_ok (I : Inv G fs H S s) (V : EnvOk G H s.heap env sc σ) {x : Str} {v : Value} {d : D} (r : Rd G.P H s.heap v d) (hne : bnd (optM (putName sc σ x d)) (fun σ' => ret (Fl.next σ')) S ≠ .stuck) {E : Value → Shared → Prop} {Q : Unit → Shared → Prop}
    (hQ : ∀ s', Post G fs env sc H s.heap (bnd (optM (putName sc σ x d)) (fun σ' => ret (Fl.next σ')) S) .next s' → Q () s') : wpAny G.M A (storeName env x v) Q E s := by
  cases hp : putName sc σ x d with
  | none => rw [hp] at hne; exact absurd rfl hne
  | some σ' =>
    rw [hp] at hQ
    exact put_ok I V r hp fun h' tk x' J W => hQ _ ⟨.next σ', S, H, rfl, x', J, W⟩

theorem assign_plain {v : Expr} {x : Str} {np pos : Pos} {m : EM D} (he : WX G fs A (RR G) H S s (eval v env) m) (V : EnvOk G H s.heap env sc σ) (hs : swapsWith v (some (.Name x np)) pos.line env = pure false)
    (hne : bnd m (fun d => bnd (optM (putName sc σ x d)) fun σ' => ret (Fl.next σ')) S ≠ .stuck) :
    wpAny G.M A (exec (.Assign [.Name x np] v pos) env) (Post G fs env sc H s.heap (bnd m (fun d => bnd (optM (putName sc σ x d)) fun σ' => ret (Fl.next σ')) S)) (PX G fs (xs env) H s.heap (bnd m (fun d => bnd (optM (putName sc σ x d)) fun σ' => ret (Fl.next σ')) S)) s := by
  refine wpAny_Assign_Name (he.then hne fun v d H1 S1 s1 e1 q1 n1 x1 I1 r1 => ?_) hs
  rw [q1]
  exact bind_ok I1 (V.step x1) r1 n1 fun s' p => p.trans x1.weaken

theorem assign_comp (K : G.Ok) (X : Cxt G fs A r) {elt iter : Expr} {scope : Scope} {x y : Str} {px py pos cpos : Pos} {ifs : List Expr} (hi : EvOk G fs A cf iter) (ht : TestsOk G fs A cf ifs) (he : EvOk G fs A cf elt) (I : Inv G fs H S s) (V : EnvOk G H s.heap env sc σ)
    (hs : swapsWith (.ListComp elt [⟨.Name x px, iter, ifs, 0⟩] scope cpos) (some (.Name y py)) pos.line env = pure true)
    (hne : bnd (ev G.C cf (.ListComp elt [⟨.Name x px, iter, ifs, 0⟩] scope cpos) sc σ) (fun d => bnd (optM (putName sc σ y d)) fun σ' => ret (Fl.next σ')) S ≠ .stuck) {E : Value → Shared → Prop} :
    wpAny G.M A (exec (.Assign [.Name y py] (.ListComp elt [⟨.Name x px, iter, ifs, 0⟩] scope cpos) pos) env)
      (Post G fs env sc H s.heap (bnd (ev G.C cf (.ListComp elt [⟨.Name x px, iter, ifs, 0⟩] scope cpos) sc σ) (fun d => bnd (optM (putName sc σ y d)) fun σ' => ret (Fl.next σ')) S)) E s := by
  rw [exec_Assign_Name_used _ _ _ _ hs]
  refine wpAny_bind (wpAny_standAt (wpAny_bind ?_))
  refine wpAny_bind (wpAny_mono (comp_run K X hi ht he (cpos := firstIterPos [⟨.Name x px, iter, ifs, 0⟩] cpos) (use := some (assign (.Name y py) env)) (E := E)
    (Q := fun _ s' => Post G fs env sc H s.heap (bnd (ev G.C cf (.ListComp elt [⟨.Name x px, iter, ifs, 0⟩] scope cpos) sc σ) (fun d => bnd (optM (putName sc σ y d)) fun σ' => ret (Fl.next σ')) S) .next s')
    I V (bnd_inv hne) fun D C s1 H1 S1 s' d S2 H2 m x1 I1 hC he x2 I2 r2 hn => ?_) (fun _ _ p => wpAny_pure (wpAny_pure p)) fun _ _ p => p)
  rw [bnd_at he] at hne
  show wpAny G.M A (assign (.Name y py) env (.ref D)) _ _ _
  have V1 := V.step x1
  have lowL : env.locals < s1.heap.objs.size := V1.lt
  have cellLt : ∀ p ∈ env.cells, p.2 < s1.heap.objs.size := fun p hp => I1.ltF (V1.cin p hp)
  have nC : ∀ b ∈ xs env, b ≠ C := by
    rintro b hb rfl
    rcases List.mem_cons.mp hb with q | q
    · rw [← q] at lowL; exact absurd lowL (Nat.not_lt.mpr hC)
    · obtain ⟨p, hp, rfl⟩ := List.mem_map.mp q
      exact absurd (cellLt p hp) (Nat.not_lt.mpr hC)
  have V1' := V1.more (ns := [C]) (fun _ _ e => e) (by intro b hb; simp only [List.mem_singleton] at hb; subst hb; exact hC)
  have V2 := V1'.stepX x2 ⟨by simpa using nC _ (List.mem_cons_self ..), fun y i c q e => by simpa using nC _ (List.mem_cons_of_mem _ (lookup_mem e))⟩
  have inC : C ∈ H2.fr := by rw [x2.fr]; simp
  refine wpAny_assign_Name ?_
  cases hp : putName sc σ y d with
  | none => rw [hp] at hne; exact absurd rfl hne
  | some σ' =>
    refine put_ok I2 V2 r2 hp fun h3 tk x3 I3 V3 => ?_
    refine ⟨m, Ns.upto hn fun o q => (x3.keepF C o inC (fun z => nC C z rfl) q).imp fun _ z => z.1, fun h'' hs' => ?_⟩
    obtain ⟨y1, y2, y3⟩ := leave_one (X := C :: xs env) (Y := xs env) (s' := { s' with heap := h3, toks := tk }) I1 hC (fun b hb => (List.mem_cons.mp hb).imp (fun q => by simp [q]) fun q => q)
      ((x2.mono (by simp)).trans (x3.mono fun b hb => List.mem_cons_of_mem _ hb)) I3 hs'
    have hf : ∀ b ∈ H1.fr, b ∈ H2.fr := fun b hb => by rw [x2.fr]; exact List.mem_append_right _ hb
    have W := V3.less (fr := H1.fr) (h' := h'') hf (fun b o q e => (hs'.2 b (by
      rintro rfl
      rcases q with q | q
      · exact q inC
      · exact absurd (I1.ltF q) (Nat.not_lt.mpr hC))).trans e) V1.inF V1.cin
    rw [bnd_at he, hp]
    exact ⟨.next σ', S2, _, rfl, x1.weaken.trans y1, y2, W⟩

theorem assignName_arm (K : G.Ok) (X : Cxt G fs A r) (hcf : CfOk G cf r) {v : Expr} {x : Str} {np pos : Pos} : SOk G fs A cf (.Assign [.Name x np] v pos) := by
  constructor
  intro H S s env sc σ F0 I V
  have q : ex G.C cf (.Assign [.Name x np] v pos) sc σ = bnd (evC G.C cf v sc σ) fun d => bnd (optM (putName sc σ x d)) fun σ' => ret (.next σ') := rfl
  rw [q]
  intro hne
  by_cases hc : notComp v = true
  · exact assign_plain (evC_ok K X hcf v I V) V (swaps_no hc) hne
  · cases v with
    | ListComp elt gens scope cpos =>
      have hsw : ∃ b, swapsWith (.ListComp elt gens scope cpos) (some (.Name x np)) pos.line env = pure b := ⟨_, rfl⟩
      obtain ⟨b, hsw⟩ := hsw
      cases b with
      | false => exact assign_plain (evC_ok K X hcf _ I V) V hsw hne
      | true =>
        match gens, hne, hsw with
        | [], hne, _ => exact absurd rfl (bnd_inv hne)
        | [⟨t, iter, ifs, a⟩], hne, hsw =>
          cases t with
          | Name z pz =>
            by_cases ha : a = 0
            · subst ha
              exact assign_comp K X (e_all K X hcf iter).ev (l_all K X hcf ifs).tests (e_all K X hcf elt).ev I V hsw hne
            · refine absurd ?_ (bnd_inv hne)
              match a, ha with
              | .ofNat 0, ha => exact absurd rfl ha
              | .ofNat (n + 1), _ => rfl
              | .negSucc n, _ => rfl
          | _ => exact absurd rfl (bnd_inv hne)
        | ⟨t, iter, ifs, a⟩ :: g2 :: l, hne, _ =>
          refine absurd ?_ (bnd_inv hne)
          cases t <;> first | rfl | skip
          all_goals (match a with
            | .ofNat 0 => rfl
            | .ofNat (n + 1) => rfl
            | .negSucc n => rfl)
    | SetComp => exact absurd rfl (bnd_inv hne)
    | DictComp => exact absurd rfl (bnd_inv hne)
    | _ => exact absurd rfl hc
end
end Mine
end

section
set_option maxRecDepth 100000
namespace Mine
open PySem

section
variable {G : Glo} {fs : List Env} {A : Around} {cf : Str → List D → EM D} {r : Nat} {H : Hid} {S : Store} {s : Shared} {env : Env} {sc : Scope} {σ : Sg}

/-- an item of a list stored -/
theorem setItem_at {l : Addr} {vs : Array Value} {m : Nat} {k : Int} {t : Tok} {v : Value} {Q : Unit → Shared → Prop} {E : Value → Shared → Prop} (hl : s.heap.get? l = some (lstO vs m)) (h0 : 0 ≤ k) (hfit : k < 2 ^ 63) (hn : k < vs.size)
    (hQ : ∀ m' h', h'.get? l = some (lstO (vs.setIfInBounds k.toNat v) m') → Heap.SameBut l s.heap h' → Q () { s with heap := h' }) : wpAny G.M A (setItem (.ref l) (.int k t) v) Q E s := by
  have hL : s.heap.IsList l vs := ⟨_, hl, rfl, m, rfl⟩
  unfold setItem
  try with_reducible refine wpAny_holding ?_
  first | refine wpAny_bind (wpAny_pure ?_) | skip
  refine wpAny_bind (wpAny_sequenceKey hL.typeIs (by decide) ?_)
  refine wpAny_bind (wpAny_callSpecial?_slot (name := Str.ofString "__setitem__") hL.typeIs slot_list_setitem (wpAny_call_entry slot_list_setitem hL.typeIs entry_list_setitem ?_ (args_list_setitem _ _ _)))
  show wpAny _ _ (Builtin.List.listSubscript? (.int k t) >>= _) _ _ s
  refine wpAny_bind (wpAny_listSubscript_int (fitsIndex_of h0 hfit) ?_)
  clear hfit
  obtain ⟨j, rfl⟩ := Int.eq_ofNat_of_zero_le h0
  have hj : j < vs.size := by omega
  show wpAny _ _ ((seqItemAt l j >>= fun r => pure (r.map (j, ·))) >>= _) _ _ s
  refine wpAny_bind (wpAny_bind (wpAny_seqItemAt hl rfl (wpAny_pure ?_)))
  rw [Array.getElem?_eq_getElem hj]
  show wpAny _ _ (setSeqItemAt l j v >>= _) _ _ s
  refine wpAny_bind (wpAny_setSeqItemAt hl rfl ?_)
  have hg : ∃ m', (s.heap.update l (Obj.mapSeq (·.setIfInBounds j v))).get? l = some (lstO (vs.setIfInBounds j v) m') := ⟨_, IsL.update hl fun xs => xs.setIfInBounds j v⟩
  obtain ⟨m', hg⟩ := hg
  first
    | exact wpAny_bind (wpAny_pure (wpAny_pure ⟨.none, rfl, wpAny_pure (hQ m' _ hg (Heap.SameBut.update ..))⟩))
    | exact wpAny_pure ⟨.none, rfl, wpAny_pure (hQ m' _ hg (Heap.SameBut.update ..))⟩

theorem RdAll.set {P : Params} {h : Heap} {v : Value} {d : D} (q : Rd P H h v d) : ∀ {vs : List Value} {ds : List D} (_ : RdAll P H h vs ds) (j : Nat), RdAll P H h (vs.set j v) (ds.set j d)
  | _, _, .nil, _ => .nil
  | _, _, .cons _ b, 0 => .cons q b
  | _, _, .cons a b, j + 1 => .cons a (RdAll.set q b j)
theorem setItemM_inv {a k d : D} (h : setItemM a k d S ≠ .stuck) : ∃ n j ds, a = .loc n ∧ k = .int (j : Nat) ∧ S[n]? = some (.list ds) ∧ j < ds.length ∧ setItemM a k d S = .ok () (setS S n (.list (ds.set j d))) := by
  unfold setItemM at h
  split at h
  · rename_i n
    split at h
    · rename_i i
      split at h
      · rename_i ds hS
        split at h
        · rename_i hc
          rw [Bool.and_eq_true, decide_eq_true_eq, decide_eq_true_eq] at hc
          obtain ⟨j, rfl⟩ := Int.eq_ofNat_of_zero_le hc.1
          refine ⟨n, j, ds, rfl, rfl, hS, by omega, ?_⟩
          unfold setItemM
          dsimp only
          rw [hS]
          dsimp only
          rw [if_pos (by rw [Bool.and_eq_true, decide_eq_true_eq, decide_eq_true_eq]; exact hc)]
          rfl
        · exact absurd rfl h
      · exact absurd rfl h
    · exact absurd rfl h
  · exact absurd rfl h
theorem Wp.into {α' α β : Type} {R : Hid → Heap → α' → α → Prop} {t : Sem α'} {m : EM α} {f : α → EM β} {T : α' → Shared → Prop} {E : Value → Shared → Prop} (h1 : Wp G fs A R H S s t m) (hne : bnd m f S ≠ .stuck)
    (h2 : ∀ v a H1 S1 s1, m S = .ok a S1 → Ext [] H s.heap H1 s1.heap → Inv G fs H1 S1 s1 → R H1 s1.heap v a → f a S1 ≠ .stuck → bnd m f S = f a S1 → T v s1) : wpAny G.M A t T E s :=
  wpAny_mono (h1.seq hne h2) (fun _ _ p => p) fun _ _ p => p.elim
theorem assignSub_arm (K : G.Ok) (X : Cxt G fs A r) (hcf : CfOk G cf r) {o i v : Expr} {p pos : Pos} : SOk G fs A cf (.Assign [.Subscript o i p] v pos) := by
  constructor
  intro H S s env sc σ F0 I V
  have q : ex G.C cf (.Assign [.Subscript o i p] v pos) sc σ = if notComp v && notSlice i then bnd (ev G.C cf v sc σ) fun d => bnd (ev G.C cf o sc σ) fun a => bnd (ev G.C cf i sc σ) fun k => bnd (setItemM a k d) fun _ => ret (.next σ) else stk := rfl
  rw [q]
  intro hne
  by_cases hc : (notComp v && notSlice i) = true
  · rw [if_pos hc] at hne ⊢
    refine wpAny_Assign_Subscript (Wp.into ((e_all K X hcf v).ev I V) hne fun v1 d H1 S1 s1 e1 x1 I1 r1 n1 q1 => ?_) (swaps_no (Bool.and_eq_true_iff.mp hc).1)
    rw [q1]
    refine Wp.into ((e_all K X hcf o).ev I1 (V.step x1)) n1 fun v2 a H2 S2 s2 e2 x2 I2 r2 n2 q2 => ?_
    rw [q2]
    refine Wp.into ((e_all K X hcf i).ev I2 ((V.step x1).step x2)) n2 fun v3 k H3 S3 s3 e3 x3 I3 r3 n3 q3 => ?_
    rw [q3]
    obtain ⟨n, j, ds, rfl, rfl, hS, hj, he⟩ := setItemM_inv (bnd_inv n3)
    rw [bnd_at he]
    have r2' := r2.step x3
    have r1' := (r1.step x2).step x3
    cases r2' with | loc ha =>
    cases r3 with | int _ t =>
    obtain ⟨a', e1', vs, m, g1, g2, g3⟩ := I3.objs n _ hS
    rw [ha] at e1'; cases e1'
    have l := g3.length
    rw [Array.length_toList] at l
    refine setItem_at g1 (Int.natCast_nonneg j) (by have := line63 g2; omega) (by omega) fun m' h' hg hs => ?_
    rw [Int.toNat_natCast] at hg
    obtain ⟨x, J⟩ := storeSet (tk := s3.toks) (vs := vs.setIfInBounds j v1) (ds := ds.set j d) I3 ha hS hs hg (by simpa using g2) (by simpa using RdAll.set r1' g3 j)
    exact ⟨.next σ, _, H3, rfl, ((x1.trans x2).trans (x3.trans x)).weaken, J, (((V.step x1).step x2).step x3).step x⟩
  · rw [if_neg hc] at hne; exact absurd rfl hne
end
end Mine
end

section
set_option maxRecDepth 100000
namespace Mine
open PySem

section
variable {G : Glo} {fs : List Env} {A : Around} {cf : Str → List D → EM D} {r : Nat} {H : Hid} {S : Store} {s : Shared} {env : Env} {sc : Scope} {σ : Sg}

theorem nameE_inv {e : Expr} {x : Str} (h : nameE e = some x) : ∃ p, e = .Name x p := by
  unfold nameE at h
  split at h
  · cases h; exact ⟨_, rfl⟩
  · cases h
theorem namesOf_cons {e : Expr} {es : List Expr} {l : List Str} (h : namesOf (e :: es) = some l) : ∃ x p ys, e = .Name x p ∧ namesOf es = some ys ∧ l = x :: ys := by
  have h' : ((nameE e).bind fun x => (namesOf es).map (x :: ·)) = some l := h
  cases hx : nameE e with
  | none => rw [hx] at h'; cases h'
  | some x =>
    rw [hx] at h'
    cases hy : namesOf es with
    | none => rw [hy] at h'; cases h'
    | some ys =>
      rw [hy] at h'; cases h'
      obtain ⟨p, e⟩ := nameE_inv hx
      exact ⟨x, p, ys, e, rfl, rfl⟩
theorem putAll_cons {x : Str} {ys : List Str} {ds : List D} {σ σ' : Sg} (h : putAll sc (x :: ys) ds σ = some σ') : ∃ d r σ1, ds = d :: r ∧ putName sc σ x d = some σ1 ∧ putAll sc ys r σ1 = some σ' := by
  cases ds with
  | nil => cases h
  | cons d r =>
    have h' : (putName sc σ x d).bind (putAll sc ys r) = some σ' := h
    cases hp : putName sc σ x d with
    | none => rw [hp] at h'; cases h'
    | some σ1 => rw [hp] at h'; exact ⟨d, r, σ1, rfl, hp, h'⟩
theorem putAll_nil {ds : List D} {σ σ' : Sg} (h : putAll sc [] ds σ = some σ') : ds = [] ∧ σ' = σ := by
  cases ds with
  | nil => cases h; exact ⟨rfl, rfl⟩
  | cons d r => cases h
theorem putAll_ok (es : List Expr) : ∀ {xs' : List Str} {vs : List Value} {ds : List D} {σ σ' : Sg} {H : Hid} {S : Store} {s : Shared}, Inv G fs H S s → EnvOk G H s.heap env sc σ → RdAll G.P H s.heap vs ds → namesOf es = some xs' → putAll sc xs' ds σ = some σ' →
    ∀ {E : Value → Shared → Prop}, wpAny G.M A (assignInOrder ((assignEach es env).map (·.2)) vs) (fun _ s' => Ext (xs env) H s.heap H s'.heap ∧ Inv G fs H S s' ∧ EnvOk G H s'.heap env sc σ') E s := by
  induction es with
  | nil =>
    intro xs' vs ds σ σ' H S s I V r hn hp E
    cases hn
    obtain ⟨rfl, rfl⟩ := putAll_nil hp
    cases r
    exact PyProof.Rows.assignInOrder_nil ⟨Ext.refl, I, V⟩
  | cons e es ih =>
    intro xs' vs ds σ σ' H S s I V r hn hp E
    obtain ⟨x, p, ys, rfl, hes, rfl⟩ := namesOf_cons hn
    obtain ⟨d, ds, σ1, rfl, h1, h2⟩ := putAll_cons hp
    cases r with | cons r1 r2 =>
    refine PyProof.Rows.assignInOrder_cons (t := assign (.Name x p) env) (wpAny_assign_Name (put_ok I V r1 h1 fun h' tk x' J W => ?_))
    exact wpAny_mono (ih J W (r2.step x') hes h2) (fun _ s' p => let ⟨a, b, c⟩ := p; ⟨x'.trans a, b, c⟩) fun _ _ p => p

theorem namesOf_len (es : List Expr) : ∀ {xs : List Str}, namesOf es = some xs → es.length = xs.length ∧ ∀ env : Env, (assignEach es env).length = xs.length ∧ (assignEach es env).findIdx? (·.1) = none := by
  induction es with
  | nil => intro xs h; cases h; exact ⟨rfl, fun _ => ⟨rfl, rfl⟩⟩
  | cons e es ih =>
    intro xs h
    obtain ⟨x, p, ys, rfl, hes, rfl⟩ := namesOf_cons h
    obtain ⟨a, b⟩ := ih hes
    refine ⟨congrArg (· + 1) a, fun env => ?_⟩
    have q : assignEach (.Name x p :: es) env = (false, assign (.Name x p) env) :: assignEach es env := rfl
    rw [q]
    refine ⟨congrArg (· + 1) (b env).1, ?_⟩
    rw [List.findIdx?_cons, (b env).2]; rfl
theorem putAll_len (xs : List Str) : ∀ {ds : List D} {σ σ' : Sg}, putAll sc xs ds σ = some σ' → xs.length = ds.length := by
  induction xs with
  | nil => intro ds σ σ' h; rw [(putAll_nil h).1]; rfl
  | cons x xs ih =>
    intro ds σ σ' h
    obtain ⟨d, r, σ1, rfl, _, h2⟩ := putAll_cons h
    exact congrArg (· + 1) (ih h2)

theorem swap_no {es : List Expr} {k : Nat} {tp : Pos} {v : Expr} (hv : plainV v = true) (env : Env) : swappedStores [.Tuple es k tp] v env = pure none := by
  cases v <;> first | rfl | cases hv
theorem plainV_comp {v : Expr} (hv : plainV v = true) : notComp v = true := by
  cases v <;> first | rfl | cases hv

theorem assignTuple_arm (K : G.Ok) (X : Cxt G fs A r) (hcf : CfOk G cf r) {es : List Expr} {k : Nat} {tp pos : Pos} {v : Expr} : SOk G fs A cf (.Assign [.Tuple es k tp] v pos) := by
  constructor
  intro H S s env sc σ F0 I V
  have q : ex G.C cf (.Assign [.Tuple es k tp] v pos) sc σ = if plainV v then bnd (optM (namesOf es)) fun xs => bnd (evC G.C cf v sc σ) fun d => (match d with
      | .tuple ds => bnd (optM (putAll sc xs ds σ)) fun σ' => ret (.next σ')
      | _ => stk) else stk := rfl
  rw [q]
  intro hne
  by_cases hv : plainV v = true
  · rw [if_pos hv] at hne ⊢
    cases hn : namesOf es with
    | none => rw [hn] at hne; exact absurd rfl hne
    | some ys =>
      have q2 : ∀ f : List Str → EM Fl, bnd (optM (some ys)) f S = f ys S := fun f => rfl
      rw [hn, q2] at hne
      rw [q2]
      refine PyProof.Rows.Assign_Tuple ((evC_ok K X hcf v I V).then hne fun v d H1 S1 s1 e1 q1 n1 x1 I1 r1 => ?_) (show swapsWith v (some (.Tuple es k tp)) pos.line env = pure false from swaps_no (plainV_comp hv)) (swap_no hv env)
      rw [q1]
      cases r1 with
      | @tuple a vs m ds a1 a2 a3 a4 a5 =>
        dsimp only at n1 ⊢
        cases hp : putAll sc ys ds σ with
        | none => rw [hp] at n1; exact absurd rfl n1
        | some σ' =>
          obtain ⟨l1, l2⟩ := namesOf_len _ hn
          have hl : (assignEach es env).length = vs.size := by
            rw [(l2 env).1, putAll_len _ hp, ← a5.length]; simp
          refine wpAny_size (PyProof.Rows.assign_Tuple_tuple X.handled (Rd.isTup a3) hl (l2 env).2 fun h' hx => ?_)
          have hk : ∀ b o, s1.heap.get? b = some o → h'.get? b = some o := fun b o e => hx b o (Nat.ne_of_lt (Heap.lt_size e)) e
          have V1 := V.step x1
          have J : Inv G fs H1 S1 { s1 with heap := h' } := I1.grow (tk := s1.toks) hk
          have W : EnvOk G H1 h' env sc σ := V1.more (ns := []) hk (by simp)
          have r' : RdAll G.P H1 h' vs.toList ds := RdAll.ext (H := H1) (H' := H1) (fun b o z1 z2 e => ⟨z1, z2, hk b o e⟩) (fun _ _ e => e) a5
          refine wpAny_mono (putAll_ok _ (s := { s1 with heap := h' }) J W r' hn hp) (fun _ s' p hz => ?_) fun _ _ p => p
          obtain ⟨y1, y2, y3⟩ := p
          refine ⟨.next σ', S1, H1, rfl, x1.weaken.trans ⟨rfl, ⟨[], by simp, by simp⟩, fun b o z1 z2 e => y1.keep b o z1 z2 (hk b o e), fun b o z1 z2 e => y1.keepF b o z1 z2 (hk b o e), hz⟩, y2, y3⟩
      | _ => exact absurd rfl n1
  · rw [if_neg hv] at hne; exact absurd rfl hne

theorem forL_cons {body : D → Sg → EM Fl} {d : D} {l : List D} {σ : Sg} : forL body (d :: l) σ = bnd (calm (body d σ)) fun f => match f with
    | .next σ' => forL body l σ'
    | .ret v => ret (.ret v) := rfl

/-- what holds between two turns of a for -/
structure FMid (G : Glo) (fs : List Env) (H : Hid) (h₁ : Heap) (env : Env) (sc : Scope) (body : D → Sg → EM Fl) (ds : List D) (I : Addr) (St : Nat → Heap → Prop) (res : Out Fl) (n : Nat) (s : Shared)
    (k : Nat) (H1 : Hid) (S1 : Store) (σ1 : Sg) : Prop where
  cnt : n + k = ds.length
  x : Ext (I :: xs env) ⟨H.ρ, [I] ++ H.fr⟩ h₁ H1 s.heap
  inv : Inv G fs H1 S1 s
  env : EnvOk G H1 s.heap env sc σ1
  st : St k s.heap
  ne : forL body (ds.drop k) σ1 S1 ≠ .stuck
  rest : res = forL body (ds.drop k) σ1 S1

theorem for_arm (K : G.Ok) (X : Cxt G fs A r) {x : Str} {px pos : Pos} {iter : Expr} {body : List Stmt} (hi : EvOk G fs A cf iter) (hb : BOk G fs A cf body) : SOk G fs A cf (.For (.Name x px) iter body [] pos) := by
  constructor
  intro H S s env sc σ F0 I V
  have q : ex G.C cf (.For (.Name x px) iter body [] pos) sc σ = bnd (ev G.C cf iter sc σ) fun it => bnd (optM (itemsOf it)) fun ds =>
        forL (fun d σ => bnd (optM (putName sc σ x d)) fun σ' => exs G.C cf body sc σ') ds σ := rfl
  rw [q]
  intro hne
  refine wpAny_For ((hi I V).then K hne fun v it H1 S1 s1 e1 q1 n1 x1 I1 r1 => ?_) (folded hne env)
  rw [q1]
  cases hds : itemsOf it with
  | none => rw [hds] at n1; exact absurd rfl n1
  | some ds =>
    have q2 : ∀ f : List D → EM Fl, bnd (optM (some ds)) f S1 = f ds S1 := fun f => rfl
    rw [hds, q2] at n1
    rw [q2]
    refine iter_ok r1 hds fun o fp P St T => ?_
    have V1 := V.step x1
    have hh := X.handled
    have old : ∀ b o', s1.heap.get? b = some o' → (s1.heap.push o).get? b = some o' := fun b o' e => Heap.get?_push_of_some _ e
    have nsNew : ∀ b ∈ [s1.heap.objs.size], s1.heap.objs.size ≤ b := by intro b hb; simp only [List.mem_singleton] at hb; subst hb; exact Nat.le_refl _
    have I2 : Inv G fs ⟨H1.ρ, [s1.heap.objs.size] ++ H1.fr⟩ S1 { s1 with heap := s1.heap.push o } := I1.more (tk := s1.toks) old nsNew fun b hb => by
      simp only [List.mem_singleton] at hb; subst hb
      obtain ⟨o', e, _⟩ := T.live _ _ T.start; exact ⟨o', e⟩
    have V2 := V1.more (ns := [s1.heap.objs.size]) old nsNew
    have fsI := I1.noFrame I1.freshF
    have lowX : ∀ b ∈ xs env, b < s1.heap.objs.size := by
      intro b hb
      rcases List.mem_cons.mp hb with q | q
      · rw [q]; exact V1.lt
      · obtain ⟨p, hp, rfl⟩ := List.mem_map.mp q
        exact I1.ltF (V1.cin p hp)
    have nI : ∀ b ∈ xs env, b ≠ s1.heap.objs.size := fun b hb => Nat.ne_of_lt (lowX b hb)
    -- giving the iterator up
    have leave : ∀ {H3 : Hid} {S3 : Store} {s3 : Shared} {h' : Heap} {tk : Nat} {fl : Fl} {f : Flow}, Ext (s1.heap.objs.size :: xs env) ⟨H1.ρ, [s1.heap.objs.size] ++ H1.fr⟩ (s1.heap.push o) H3 s3.heap → Inv G fs H3 S3 s3 → FlR G env sc H3 s3.heap f fl →
        (∀ b o, b ≠ s1.heap.objs.size → s3.heap.get? b = some o → h'.get? b = some o) → s3.heap.objs.size ≤ h'.objs.size →
        forL (fun d σ => bnd (optM (putName sc σ x d)) fun σ' => exs G.C cf body sc σ') ds σ S1 = .ok fl S3 →
        Post G fs env sc H s.heap (forL (fun d σ => bnd (optM (putName sc σ x d)) fun σ' => exs G.C cf body sc σ') ds σ S1) f { s3 with heap := h', toks := tk } := by
      intro H3 S3 s3 h' tk fl f y J R hk hz hres
      have inI : s1.heap.objs.size ∈ H3.fr := by rw [y.fr]; simp
      have hf : ∀ b ∈ H1.fr, b ∈ H3.fr := fun b hb => by rw [y.fr]; exact List.mem_append_right _ hb
      have hk' : ∀ b o, (b ∉ H3.fr ∨ b ∈ H1.fr) → s3.heap.get? b = some o → h'.get? b = some o := fun b o q e => hk b o (by
        rintro rfl
        rcases q with q | q
        · exact q inI
        · exact absurd (I1.ltF q) (Nat.lt_irrefl _)) e
      refine ⟨fl, S3, ⟨H3.ρ, H1.fr⟩, hres, x1.weaken.trans (Ext.around' (ns := [s1.heap.objs.size]) old (size_push_le _ _) nsNew (fun b hb => (List.mem_cons.mp hb).imp (fun q => by simp [q]) fun q => q) y (fun b o hb e => hk b o (by simpa using hb) e) hz), J.leave hf I1.frames hk', ?_⟩
      cases fl with
      | next σ3 =>
        cases f with
        | next => exact EnvOk.less R hf hk' V1.inF V1.cin
        | _ => exact R.elim
      | ret d =>
        cases f with
        | ret v => exact Rd.ext (H := H3) (H' := ⟨H3.ρ, H1.fr⟩) (fun b o z1 z2 e => ⟨z1, fun z => z2 (hf b z), hk' b o (.inl z2) e⟩) (fun _ _ e => e) R
        | _ => exact R.elim
    refine codeAny_forLoop (fun n s' => ∃ k H2 S2 σ2, FMid G fs H1 (s1.heap.push o) env sc (fun d σ => bnd (optM (putName sc σ x d)) fun σ' => exs G.C cf body sc σ') ds s1.heap.objs.size St
      (forL (fun d σ => bnd (optM (putName sc σ x d)) fun σ' => exs G.C cf body sc σ') ds σ S1) n s' k H2 S2 σ2) ?turn ds.length ?start
    case start => exact ⟨0, _, S1, σ, ⟨rfl, Ext.refl, I2, V2, T.start, by simpa using n1, by simp⟩⟩
    case turn =>
      rintro n s₅ ⟨k, H2, S2, σ2, M⟩
      have hfr : H2.fr = [s1.heap.objs.size] ++ H1.fr := M.x.fr
      have inI : s1.heap.objs.size ∈ H2.fr := by rw [hfr]; simp
      cases n with
      | zero =>
        have hk : k = ds.length := by have := M.cnt; omega
        refine wpAny_size ((T.walks A hh).done s₅ _ _ (hk ▸ M.st) fun h' tk keep hz => ?_)
        have keep' : ∀ b o, b ≠ s1.heap.objs.size → s₅.heap.get? b = some o → h'.get? b = some o := fun b o hb e => keep b o (by simpa using hb) e
        refine wpAny_execs_nil (leave (fl := .next σ2) M.x M.inv M.env keep' hz ?_)
        rw [M.rest, hk, List.drop_length]; rfl
      | succ n =>
        have hk : k < ds.length := by have := M.cnt; omega
        refine wpAny_size ((T.walks A hh).item k s₅ _ _ hk M.st fun v h' tk p st' keep hz => ?_)
        have keep' : ∀ b o, b ≠ s1.heap.objs.size → s₅.heap.get? b = some o → h'.get? b = some o := fun b o hb e => keep b o (by simpa using hb) e
        obtain ⟨d, hd, rv⟩ := T.item k v p
        have hdrop : ds.drop k = d :: ds.drop (k + 1) := by
          rw [List.drop_eq_getElem_cons hk]
          rw [List.getElem?_eq_getElem hk] at hd
          cases hd; rfl
        obtain ⟨J6, xI⟩ := M.inv.setF (tk := tk) inI keep' hz (let ⟨o, e, _⟩ := T.live _ _ st'; ⟨o, e, .inr fsI⟩)
        have sub1 : ∀ b ∈ [s1.heap.objs.size], b ∈ s1.heap.objs.size :: xs env := by simp
        have x6 := M.x.trans (xI.mono sub1)
        have V6 := M.env.stepX xI ⟨by simpa using nI _ (List.mem_cons_self ..), fun y i c q e => by simpa using nI _ (List.mem_cons_of_mem _ (lookup_mem e))⟩
        have rv6 := Rd.into old nsNew x6 rv
        have ne1 := M.ne
        have res1 := M.rest
        rw [hdrop, forL_cons] at ne1 res1
        have ne2 := bnd_inv ne1
        cases hp : putName sc σ2 x d with
        | none => rw [hp] at ne2; exact absurd rfl ne2
        | some σ3 =>
          refine wpAny_assign_Name (put_ok J6 V6 rv6 hp fun h7 tk7 x7 J7 V7 => ?_)
          have q3 : bnd (optM (putName sc σ2 x d)) (fun σ' => exs G.C cf body sc σ') S2 = exs G.C cf body sc σ3 S2 := by rw [hp]; rfl
          have ne3 := (calm_at ne2).2
          have ne4 : calm (exs G.C cf body sc σ3) S2 ≠ .stuck := by unfold calm at ne2 ⊢; rw [q3] at ne2; exact ne2
          rw [q3] at ne3
          refine wpAny_mono (hb.go F0 J7 V7 ne3) (fun f s8 p => ?_) fun _ _ p => (p.not ne4).elim
          obtain ⟨fl, S8, H8, e8, x8, J8, R8⟩ := p
          have e8' : bnd (optM (putName sc σ2 x d)) (fun σ' => exs G.C cf body sc σ') S2 = .ok fl S8 := by rw [q3]; exact e8
          rw [bnd_at ((calm_at ne2).1.trans e8')] at ne1 res1
          have y8 : Ext (s1.heap.objs.size :: xs env) ⟨H1.ρ, [s1.heap.objs.size] ++ H1.fr⟩ (s1.heap.push o) H8 s8.heap := (x6.trans (x7.mono fun b hb => List.mem_cons_of_mem _ hb)).trans (x8.mono fun b hb => List.mem_cons_of_mem _ hb)
          cases fl with
          | next σ8 =>
            cases f with
            | next =>
              refine ⟨n, Nat.lt_succ_self _, k + 1, H8, S8, σ8, ⟨by have := M.cnt; omega, y8, J8, R8, ?_, ne1, res1⟩⟩
              have z : Ext (xs env) H2 h' H8 s8.heap := x7.trans x8
              refine (T.walks A hh).frame (k + 1) _ _ st' fun b hb' o' e => ?_
              rcases T.fp b hb' with rfl | ⟨b1, b2, o'', b3⟩
              · obtain ⟨o'', e', hp'⟩ := T.live _ _ st'
                rw [e] at e'; cases e'
                exact z.plain inI (fun q => nI _ q rfl) hp' e
              · have hlt := Heap.lt_size b3
                refine z.keep b o' (M.x.notin b1 (Nat.lt_of_lt_of_le hlt (size_push_le _ _))) (fun q => ?_) e
                rw [hfr] at q
                rcases List.mem_append.mp q with q | q
                · simp only [List.mem_singleton] at q; exact absurd hlt (by rw [q]; exact Nat.lt_irrefl _)
                · exact b2 q
            | _ => exact R8.elim
          | ret dv =>
            cases f with
            | ret rv' => exact leave (fl := .ret dv) (tk := s8.toks) (h' := s8.heap) y8 J8 R8 (fun _ _ _ e => e) (Nat.le_refl _) res1
            | _ => exact R8.elim

end
end Mine
end

section
set_option maxRecDepth 100000
namespace Mine
open PySem

section
variable {G : Glo} {fs : List Env} {A : Around} {cf : Str → List D → EM D} {r : Nat}

theorem s_stk {st : Stmt} (h : ∀ sc σ S, ex G.C cf st sc σ S = .stuck) : SOk G fs A cf st := ⟨fun _ _ _ hne => absurd (h _ _ _) hne⟩

/-- how exceptions are raised, caught and leave a call -/
structure ExcPart (G : Glo) : Prop where
  leave : ∀ {fs : List Env} {A : Around} {env : Env} {X : List Addr} {α : Type} {H : Hid} {h : Heap} {r : Out α} {e : Value} {s' : Shared} {E : Value → Shared → Prop}, A.frames = some (env :: fs) → PX G (env :: fs) X H h r e s' →
    wpAny G.M A (leaving env e) (fun _ s'' => PX G (env :: fs) X H h r e s'') E s'
variable (K : G.Ok) (XP : ExcPart G) (X : Cxt G fs A r) (hcf : CfOk G cf r)
include K X hcf

theorem assign_arm (ts : List Expr) (v : Expr) (pos : Pos) : SOk G fs A cf (.Assign ts v pos) := by
  match ts with
  | [] => exact s_stk fun _ _ _ => rfl
  | [t] =>
    cases t with
    | Name x np => exact assignName_arm K X hcf
    | Tuple es k tp => exact assignTuple_arm K X hcf
    | Subscript o i p => exact assignSub_arm K X hcf
    | _ => exact s_stk fun _ _ _ => rfl
  | t :: _ :: _ => cases t <;> exact s_stk fun _ _ _ => rfl

omit hcf in
theorem forS_arm {t iter : Expr} {body orelse : List Stmt} {pos : Pos} (hi : EvOk G fs A cf iter) (hb : BOk G fs A cf body) : SOk G fs A cf (.For t iter body orelse pos) := by
  cases t with
  | Name x px =>
    cases orelse with
    | nil => exact for_arm K X hi hb
    | cons => exact s_stk fun _ _ _ => rfl
  | _ => exact s_stk fun _ _ _ => rfl
include XP
mutual
theorem s_all : ∀ st : Stmt, SOk G fs A cf st
  | .Pass pos => pass_arm pos
  | .Return (some e) pos => ret_arm K X hcf
  | .Return none pos => ret0_arm
  | .Expr e pos => expr_arm K X hcf
  | .Assign ts v pos => assign_arm K X hcf ts v pos
  | .If t b o pos => if_arm K (e_all K X hcf t).t (b_all b) (b_all o)
  | .For t iter body orelse pos => forS_arm K X (e_all K X hcf iter).ev (b_all body)
  | .While .. => s_stk fun _ _ _ => rfl
  | .FunctionDef .. => s_stk fun _ _ _ => rfl
  | .AsyncFunctionDef .. => s_stk fun _ _ _ => rfl
  | .ClassDef .. => s_stk fun _ _ _ => rfl
  | .Delete .. => s_stk fun _ _ _ => rfl
  | .TypeAlias .. => s_stk fun _ _ _ => rfl
  | .AugAssign .. => s_stk fun _ _ _ => rfl
  | .AnnAssign .. => s_stk fun _ _ _ => rfl
  | .AsyncFor .. => s_stk fun _ _ _ => rfl
  | .With .. => s_stk fun _ _ _ => rfl
  | .AsyncWith .. => s_stk fun _ _ _ => rfl
  | .Match .. => s_stk fun _ _ _ => rfl
  | .Raise .. => s_stk fun _ _ _ => rfl
  | .Try .. => s_stk fun _ _ _ => rfl
  | .TryStar .. => s_stk fun _ _ _ => rfl
  | .Assert .. => s_stk fun _ _ _ => rfl
  | .Import .. => s_stk fun _ _ _ => rfl
  | .ImportFrom .. => s_stk fun _ _ _ => rfl
  | .Global .. => s_stk fun _ _ _ => rfl
  | .Nonlocal .. => s_stk fun _ _ _ => rfl
  | .Break .. => s_stk fun _ _ _ => rfl
  | .Continue .. => s_stk fun _ _ _ => rfl
theorem b_all : ∀ b : List Stmt, BOk G fs A cf b
  | [] => execs_nil
  | st :: b => execs_cons (s_all st) (b_all b)
end
end
end Mine
end

section
set_option maxRecDepth 100000
namespace Mine
open PySem

theorem bindL_miss {kindOf : Str → Option NameKind} {x : Str} : ∀ {b : List (Str × Value)} {m : Str → Option Value}, (∀ p ∈ b, p.1 ≠ x) → bindL kindOf b m x = m x
  | [], _, _ => rfl
  | (n, v) :: r, m, h => by
    unfold bindL
    rw [bindL_miss fun p hp => h p (List.mem_cons_of_mem _ hp)]
    have hn : x ≠ n := fun q => h (n, v) (List.mem_cons_self ..) q.symm
    split
    · simp [hn]
    · rfl
theorem bindC_miss {kindOf : Str → Option NameKind} {x : Str} : ∀ {b : List (Str × Value)} {m : Str → Option Value}, (∀ p ∈ b, p.1 ≠ x) → bindC kindOf b m x = m x
  | [], _, _ => rfl
  | (n, v) :: r, m, h => by
    unfold bindC
    rw [bindC_miss fun p hp => h p (List.mem_cons_of_mem _ hp)]
    have hn : x ≠ n := fun q => h (n, v) (List.mem_cons_self ..) q.symm
    split
    · rfl
    · simp [hn]
theorem bindL_hit {kindOf : Str → Option NameKind} {x : Str} {v : Value} (hk : kindOf x = some .local) : ∀ {b : List (Str × Value)} {m : Str → Option Value}, (b.map (·.1)).Nodup → (x, v) ∈ b → bindL kindOf b m x = some v
  | [], _, _, h => by cases h
  | (n, w) :: r, m, hn, h => by
    rw [List.map_cons, List.nodup_cons] at hn
    unfold bindL
    rcases List.mem_cons.mp h with e | h
    · cases e
      rw [bindL_miss fun p hp q => hn.1 (List.mem_map.mpr ⟨p, hp, q⟩), if_pos hk]
      simp
    · exact bindL_hit hk hn.2 h
theorem bindC_hit {kindOf : Str → Option NameKind} {x : Str} {v : Value} (hk : kindOf x ≠ some .local) : ∀ {b : List (Str × Value)} {m : Str → Option Value}, (b.map (·.1)).Nodup → (x, v) ∈ b → bindC kindOf b m x = some v
  | [], _, _, h => by cases h
  | (n, w) :: r, m, hn, h => by
    rw [List.map_cons, List.nodup_cons] at hn
    unfold bindC
    rcases List.mem_cons.mp h with e | h
    · cases e
      rw [bindC_miss fun p hp q => hn.1 (List.mem_map.mpr ⟨p, hp, q⟩), if_neg hk]
      simp
    · exact bindC_hit hk hn.2 h

theorem cellsFrom_nodup : ∀ {ns : List (Str × NameKind)} {n : Nat} {acc : List (Str × Addr)}, (ns.map (·.1)).Nodup → (acc.map (·.1)).Nodup → (∀ p ∈ acc, p.1 ∉ ns.map (·.1)) → ((cellsFrom n ns acc).map (·.1)).Nodup
  | [], _, _, _, h, _ => h
  | (x, k) :: r, n, acc, hn, ha, hd => by
    rw [List.map_cons, List.nodup_cons] at hn
    have hd' : ∀ p ∈ acc, p.1 ∉ r.map (·.1) := fun p hp q => hd p hp (by rw [List.map_cons]; exact List.mem_cons_of_mem _ q)
    unfold cellsFrom
    split
    · refine cellsFrom_nodup hn.2 ?_ ?_
      · rw [List.map_cons, List.nodup_cons]
        refine ⟨fun q => ?_, ha⟩
        obtain ⟨p, hp, e⟩ := List.mem_map.mp q
        exact hd p hp (by rw [e]; simp)
      · intro p hp
        rcases List.mem_cons.mp hp with e | hp
        · subst e; exact hn.1
        · exact hd' p hp
    · exact cellsFrom_nodup hn.2 ha hd'
theorem cellsFrom_acc : ∀ {ns : List (Str × NameKind)} {n : Nat} {acc : List (Str × Addr)} {p : Str × Addr}, p ∈ acc → p ∈ cellsFrom n ns acc
  | [], _, _, _, h => h
  | (x, k) :: r, n, acc, p, h => by
    unfold cellsFrom
    split
    · exact cellsFrom_acc (List.mem_cons_of_mem _ h)
    · exact cellsFrom_acc h
theorem cellsFrom_has : ∀ {ns : List (Str × NameKind)} {n : Nat} {acc : List (Str × Addr)} {x : Str}, (x, NameKind.cell) ∈ ns → ∃ c, (x, c) ∈ cellsFrom n ns acc
  | [], _, _, _, h => by cases h
  | (y, k) :: r, n, acc, x, h => by
    unfold cellsFrom
    rcases List.mem_cons.mp h with e | h
    · cases e
      rw [if_pos (by decide)]
      exact ⟨n, cellsFrom_acc (List.mem_cons_self ..)⟩
    · split
      · exact cellsFrom_has h
      · exact cellsFrom_has h
theorem nodup_lookup {α : Type} {x : Str} {c : α} : ∀ {l : List (Str × α)}, (l.map (·.1)).Nodup → (x, c) ∈ l → l.lookup x = some c
  | [], _, h => by cases h
  | (y, d) :: l, hn, h => by
    rw [List.map_cons, List.nodup_cons] at hn
    rw [List.lookup_cons]
    rcases List.mem_cons.mp h with e | h
    · cases e; simp
    · have : x ≠ y := fun q => hn.1 (List.mem_map.mpr ⟨_, h, q⟩)
      rw [beq_false_of_ne this]
      exact nodup_lookup hn.2 h
theorem lookup_memP {α : Type} {x : Str} {c : α} : ∀ {l : List (Str × α)}, l.lookup x = some c → (x, c) ∈ l
  | [], h => by cases h
  | (y, d) :: l, h => by
    rw [List.lookup_cons] at h
    by_cases hy : (x == y) = true
    · rw [hy] at h
      obtain rfl := beq_iff_eq.mp hy
      cases h; exact List.mem_cons_self ..
    · have hy' : (x == y) = false := by simpa using hy
      rw [hy'] at h
      exact List.mem_cons_of_mem _ (lookup_memP h)
theorem pairwise_same {l : List (Str × Addr)} (h : l.Pairwise fun x y => x.2 ≠ y.2) {p q : Str × Addr} (hp : p ∈ l) (hq : q ∈ l) (e : p.2 = q.2) : p = q := by
  induction l with
  | nil => cases hp
  | cons a l ih =>
    rw [List.pairwise_cons] at h
    rcases List.mem_cons.mp hp with e1 | hp'
    · rcases List.mem_cons.mp hq with e2 | hq'
      · rw [e1, e2]
      · exact absurd (e1 ▸ e) (h.1 q hq')
    · rcases List.mem_cons.mp hq with e2 | hq'
      · exact absurd (e2 ▸ e).symm (h.1 p hp')
      · exact ih h.2 hp' hq'

theorem bindSg_get {ps : List Str} {ds : List D} : ∀ {ns : List (Str × NameKind)} {x : Str} {i : Nat} {k : NameKind}, slot ns x = some (i, k) → (bindSg ps ds ns)[i]? = some ((ps.zip ds).lookup x)
  | [], _, _, _, h => by cases h
  | (y, k') :: r, x, i, k, h => by
    unfold slot at h
    unfold bindSg
    split at h
    · rename_i q; cases h
      obtain rfl := beq_iff_eq.mp q
      rfl
    · split at h
      · rename_i j k'' q2; cases h
        rw [List.getElem?_cons_succ]
        exact bindSg_get q2
      · cases h

section
variable {G : Glo} {fs : List Env} {A : Around} {r : Nat} {H : Hid} {S : Store} {s : Shared}

theorem zip_rd {P : Params} {h : Heap} {x : Str} {d : D} : ∀ {ps : List Str} {vs : List Value} {ds : List D}, RdAll P H h vs ds → (ps.zip ds).lookup x = some d → ∃ v, (x, v) ∈ ps.zip vs ∧ Rd P H h v d
  | [], _, _, _, h => by simp at h
  | p :: ps, _, _, .nil, h => by simp at h
  | p :: ps, _, _, .cons (v := v) (d := e) a b, h => by
    rw [List.zip_cons_cons, List.lookup_cons] at h
    rw [List.zip_cons_cons]
    by_cases hx : (x == p) = true
    · rw [hx] at h; cases h
      obtain rfl := beq_iff_eq.mp hx
      exact ⟨v, List.mem_cons_self .., a⟩
    · have hx' : (x == p) = false := by simpa using hx
      rw [hx'] at h
      obtain ⟨v', e1, e2⟩ := zip_rd b h
      exact ⟨v', List.mem_cons_of_mem _ e1, e2⟩
theorem zip_keys {ps : List Str} {vs : List Value} (hn : ps.Nodup) (hl : vs.length = ps.length) : ((ps.zip vs).map (·.1)).Nodup := by
  have : (ps.zip vs).map (·.1) = ps := by
    rw [List.map_fst_zip]; omega
  rw [this]; exact hn

theorem fnOk_inv {fn : Fn} (h : fnOk fn = true) : fn.scope.kind = .function ∧ fn.scope.isCoroutine = false ∧ fn.scope.isGenerator = false ∧ fn.params.Nodup ∧ (fn.scope.names.map (·.1)).Nodup ∧
    ∀ x ∈ fn.params, ∃ i, slot fn.scope.names x = some (i, .local) ∨ slot fn.scope.names x = some (i, .cell) := by
  unfold fnOk at h
  simp only [Bool.and_eq_true, decide_eq_true_eq, Bool.not_eq_true', List.all_eq_true] at h
  obtain ⟨⟨⟨⟨⟨h1, h2⟩, h3⟩, h4⟩, h5⟩, h6⟩ := h
  refine ⟨by simpa using h1, h2, h3, h4, h5, fun x hx => ?_⟩
  have := h6 x hx
  split at this
  · rename_i i q; exact ⟨i, .inl q⟩
  · rename_i i q; exact ⟨i, .inr q⟩
  · cases this

/-- the frame of a call -/
theorem call_env (K : G.Ok) (I : Inv G fs H S s) {f : Str} {fn : Fn} {a : Addr} {cd : Value} {vs : List Value} {ds : List D} {h₁ : Heap} {tk : Nat} (hok : fnOk fn = true) (hl : vs.length = fn.params.length) (rv : RdAll G.P H s.heap vs ds)
    (F : PyProof.Rows.Fr s.heap s.heap.objs.size h₁ (bindL (PyProof.Rows.envOfC f fn.scope s.heap.objs.size a cd).kindOf (fn.params.zip vs) fun _ => none))
    (C : PyProof.Rows.Cl s.heap.objs.size (cellsFrom (s.heap.objs.size + 1) fn.scope.names []) h₁ (bindC (PyProof.Rows.envOfC f fn.scope s.heap.objs.size a cd).kindOf (fn.params.zip vs) fun _ => none)) :
    (∀ b ∈ xs (PyProof.Rows.envOfC f fn.scope s.heap.objs.size a cd), s.heap.objs.size ≤ b) ∧
    Inv G (PyProof.Rows.envOfC f fn.scope s.heap.objs.size a cd :: fs) ⟨H.ρ, xs (PyProof.Rows.envOfC f fn.scope s.heap.objs.size a cd) ++ H.fr⟩ S { s with heap := h₁, toks := tk } ∧
    EnvOk G ⟨H.ρ, xs (PyProof.Rows.envOfC f fn.scope s.heap.objs.size a cd) ++ H.fr⟩ h₁ (PyProof.Rows.envOfC f fn.scope s.heap.objs.size a cd) fn.scope (bindSg fn.params ds fn.scope.names) := by
  obtain ⟨k1, k2, k3, k4, k5, k6⟩ := fnOk_inv hok
  have keys : ((cellsFrom (s.heap.objs.size + 1) fn.scope.names []).map (·.1)).Nodup := cellsFrom_nodup k5 (by simp) (by simp)
  have nsNew : ∀ b ∈ xs (PyProof.Rows.envOfC f fn.scope s.heap.objs.size a cd), s.heap.objs.size ≤ b := by
    intro b hb
    rcases List.mem_cons.mp hb with q | q
    · rw [q]; exact Nat.le_refl _
    · obtain ⟨p, hp, rfl⟩ := List.mem_map.mp q
      exact Nat.le_of_lt (C.above p.1 p.2 hp)
  have live : ∀ b ∈ xs (PyProof.Rows.envOfC f fn.scope s.heap.objs.size a cd), ∃ o, h₁.get? b = some o := by
    intro b hb
    rcases List.mem_cons.mp hb with q | q
    · rw [q]; obtain ⟨o, _, _, e, _⟩ := F.ns; exact ⟨o, e⟩
    · obtain ⟨p, hp, rfl⟩ := List.mem_map.mp q
      obtain ⟨o, e, _⟩ := C.cell p.1 p.2 (nodup_lookup keys hp)
      exact ⟨o, e⟩
  have I1 := I.more (tk := tk) F.keep nsNew live
  have rd1 : ∀ {v : Value} {d : D}, Rd G.P H s.heap v d → Rd G.P ⟨H.ρ, xs (PyProof.Rows.envOfC f fn.scope s.heap.objs.size a cd) ++ H.fr⟩ h₁ v d := fun q => q.more F.keep fun b hb => (List.mem_append.mp hb).elim (fun z => .inr (nsNew b z)) .inl
  have zk := zip_keys k4 hl
  refine ⟨nsNew, { I1 with fa := fun env he => ?_ }, ⟨rfl, k1, rfl, rfl, List.mem_append_left _ (List.mem_cons_self ..), ⟨_, F.ns, fun x i d q1 q2 => ?_⟩, fun x i q => ?_, fun p hp => List.mem_append_left _ (List.mem_cons_of_mem _ (List.mem_map.mpr ⟨p, hp, rfl⟩)), fun x y i j c _ _ e1 e2 => ?_⟩⟩
  · rcases List.mem_cons.mp he with rfl | he
    · refine ⟨by show fn.scope.kind ≠ _; rw [k1]; decide, s.heap.objs.size, ?_⟩
      obtain ⟨o, es, ep, e, e2, _⟩ := F.ns
      exact ⟨o, rfl, List.mem_append_left _ (List.mem_cons_self ..), e, by unfold plainO; rw [e2]⟩
    · exact I1.fa env he
  · rw [bindSg_get q1] at q2
    obtain ⟨v, e1, e2⟩ := zip_rd rv (Option.some.inj q2)
    exact ⟨v, bindL_hit (show fn.scope.names.lookup x = _ from slot_lookup q1) zk e1, rd1 e2⟩
  · obtain ⟨c, hc⟩ := cellsFrom_has (n := s.heap.objs.size + 1) (acc := []) (slot_mem q)
    have hlk := nodup_lookup keys hc
    refine ⟨c, hlk, List.mem_append_left _ (List.mem_cons_of_mem _ (List.mem_map.mpr ⟨_, hc, rfl⟩)), (Nat.ne_of_lt (C.above x c hc)).symm, _, C.cell x c hlk, fun d q2 => ?_⟩
    rw [bindSg_get q] at q2
    obtain ⟨v, e1, e2⟩ := zip_rd rv (Option.some.inj q2)
    refine ⟨v, bindC_hit (fun z => ?_) zk e1, rd1 e2⟩
    rw [show (PyProof.Rows.envOfC f fn.scope s.heap.objs.size a cd).kindOf x = some .cell from slot_lookup q] at z
    cases z
  · have := pairwise_same C.apart (lookup_memP e1) (lookup_memP e2) rfl
    cases this; rfl

theorem Inv.tail {env : Env} (I : Inv G (env :: fs) H S s) : Inv G fs H S s := { I with fa := fun e he => I.fa e (List.mem_cons_of_mem _ he) }

theorem call_ok (K : G.Ok) (XP : ExcPart G) {cf : Str → List D → EM D} {f : Str} {fn : Fn} {a : Addr} {vs : List Value} {ds : List D} (hcf : CfOk G cf r) (Xh : A.handled = none) (Xf : A.frames = some fs) (Xd : A.depth + (r + 1) ≤ 850) (Xu : A.units + 4 * (r + 1) ≤ 8900) (I : Inv G fs H S s) (hf : G.C.fns.lookup f = some fn) (hm : G.mg f = some (.ref a)) (rv : RdAll G.P H s.heap vs ds) :
    WX G fs A (RR G) H S s (call (.ref a) vs) (runFn G.C cf fn ds) := by
  intro hne
  obtain ⟨a', o, params, pm, code, doc, e1, e2, e3, e4, e5, e6⟩ := K.fn f fn hf
  rw [hm] at e1; cases e1
  unfold runFn at hne ⊢
  by_cases hl : (ds.length == fn.params.length) = true
  · rw [if_pos hl] at hne ⊢
    have hl' : vs.length = fn.params.length := by rw [rv.length]; simpa using hl
    obtain ⟨k1, k2, k3, k4, k5, k6⟩ := fnOk_inv e5
    have keys : ((cellsFrom (s.heap.objs.size + 1) fn.scope.names []).map (·.1)).Nodup := cellsFrom_nodup k5 (by simp) (by simp)
    refine wpAny_call (PyProof.Rows.call_cells (by show A.depth < 1000; omega) (I.stays a o e2) e3 (K.nolimit.keeps I.stays) (e4.keeps I.stays) (e6 vs hl') (fun x hx => ?_) (fun h₁ tk F C => ?_) k2 k3 k1)
    · have hx' : x.1 ∈ fn.params := (List.of_mem_zip (a := x.1) (b := x.2) hx).1
      obtain ⟨i, q | q⟩ := k6 x.1 hx'
      · exact .inl (slot_lookup q)
      · obtain ⟨c, hc⟩ := cellsFrom_has (n := s.heap.objs.size + 1) (acc := []) (slot_mem q)
        exact .inr ⟨slot_lookup q, by rw [nodup_lookup keys hc]; rfl⟩
    · obtain ⟨nsNew, I1, V1⟩ := call_env K I (tk := tk) e5 hl' rv F C
      generalize henv : PyProof.Rows.envOfC f fn.scope s.heap.objs.size a code = env at nsNew I1 V1 ⊢
      have X1 : Cxt G (env :: fs) (A.deeper env) r := by
        refine ⟨Xh, Around.frames_deeper Xf, ⟨env, fs, rfl, ?_, ?_, V1.bi, V1.glob⟩, ?_, ?_⟩
        · rw [V1.scope]; exact k3
        · rw [V1.scope]; exact k2
        · show A.depth + 1 + r ≤ 850; omega
        · show A.units + 3 + 4 * r ≤ 8900; omega
      have y0 : ∀ {H' : Hid} {h' : Heap}, Ext (xs env) ⟨H.ρ, xs env ++ H.fr⟩ h₁ H' h' → Ext [] H s.heap ⟨H'.ρ, H.fr⟩ h' := fun x1 => Ext.around' (ns := xs env) (Y := []) F.keep (by
        obtain ⟨o, _, _, e, _⟩ := F.ns
        exact Nat.le_of_lt (Heap.lt_size e)) nsNew (fun b hb => .inl hb) x1 (fun _ _ _ e => e) (Nat.le_refl _)
      have hf0 : ∀ {H' : Hid} {h' : Heap}, Ext (xs env) ⟨H.ρ, xs env ++ H.fr⟩ h₁ H' h' → ∀ b ∈ H.fr, b ∈ H'.fr := fun x1 b hb => by rw [x1.fr]; exact List.mem_append_right _ hb
      refine wpAny_mono ((b_all K XP X1 hcf fn.body).go ⟨_, rfl⟩ I1 V1 (bnd_inv hne)) (fun fl s' p => ?_) fun e s' p => wpAny_mono (XP.leave (E := fun _ _ => False) (Around.frames_deeper Xf) p) (fun _ s'' q => by
        obtain ⟨c, S', H', hs, q1, x1, J, f⟩ := q
        exact ⟨c, S', ⟨H'.ρ, H.fr⟩, hs, by unfold bnd; rw [q1], y0 x1, J.tail.leave (tk := s''.toks) (hf0 x1) I.frames fun _ _ _ e => e, f⟩) fun _ _ q => q.elim
      obtain ⟨fl', S', H', q1, x1, J, R⟩ := p
      rw [bnd_at q1]
      have hf' := hf0 x1
      have J' := J.tail.leave (fr := H.fr) (h' := s'.heap) (tk := s'.toks) hf' I.frames fun _ _ _ e => e
      have y := y0 x1
      cases fl' with
      | next σ' =>
        cases fl with
        | next => exact ⟨.none, S', _, rfl, y, J', .none⟩
        | _ => exact R.elim
      | ret d =>
        cases fl with
        | ret v => exact ⟨d, S', _, rfl, y, J', Rd.less hf' R⟩
        | _ => exact R.elim
  · rw [if_neg hl] at hne; exact absurd rfl hne

theorem callF_ok (K : G.Ok) (XP : ExcPart G) : ∀ n, CfOk G (callF G.C n) n
  | 0 => by
    intro X I hf hm rv
    exact fun h => absurd rfl h
  | n + 1 => by
    rename_i fs A H S s f fn a vs ds
    intro X I hf hm rv
    have q : callF G.C (n + 1) f ds = match G.C.fns.lookup f with
      | some fn => runFn G.C (callF G.C n) fn ds
      | none => stk := rfl
    rw [q, hf]
    exact call_ok K XP (callF_ok K XP n) X.handled X.frames X.depth X.units I hf hm rv
end
end Mine
end

section
open PySem PySem.W PyProof.Rows
set_option maxRecDepth 100000
namespace Mine

/-- the program's functions, as the evaluator has them -/
noncomputable def fnsR (q : Program) : List (Str × Fn) := (recsOf q).map fun d => (d.name, ⟨d.params.args.map (·.arg), d.body, d.scope⟩)
noncomputable def plainP (p : Arguments) : Bool := p.posonlyargs.isEmpty && p.vararg.isNone && p.kwonlyargs.isEmpty && p.kwarg.isNone
noncomputable def statOk (q : Program) : Bool := (recsOf q).all fun d => plainP d.params && fnOk ⟨d.params.args.map (·.arg), d.body, d.scope⟩
noncomputable def missOk (q : Program) (loose : List Str) : Bool := biNames.all fun x => !startupNames.contains x && !loose.contains x && !((recsOf q).map (·.name)).contains x && !((litsOf q).map (·.1)).contains x && !((clssOf q loose).map (·.name)).contains x

theorem zip_lookup_some : ∀ {ps : List Str} {vs : List Value}, vs.length = ps.length → ∀ x ∈ ps, ((ps.zip vs).lookup x).isSome = true
  | [], _, _, x, h => by cases h
  | p :: ps, [], hl, _, _ => by simp at hl
  | p :: ps, v :: vs, hl, x, h => by
    rw [List.zip_cons_cons, List.lookup_cons]
    by_cases hx : (x == p) = true
    · rw [hx]; rfl
    · have hx' : (x == p) = false := by simpa using hx
      rw [hx']
      rcases List.mem_cons.mp h with e | h
      · rw [e] at hx; simp at hx
      · exact zip_lookup_some (by simpa using hl) x h
theorem filterMap_zip : ∀ {ps : List Str} {vs : List Value}, ps.Nodup → vs.length = ps.length → ∀ pre : List (Str × Value), (∀ p ∈ pre, p.1 ∉ ps) → ps.filterMap (fun n => ((pre ++ ps.zip vs).lookup n).map (n, ·)) = ps.zip vs
  | [], vs, _, _, _, _ => by simp
  | p :: ps, [], _, hl, _, _ => by simp at hl
  | p :: ps, v :: vs, hn, hl, pre, hp => by
    rw [List.nodup_cons] at hn
    have look : ∀ (l : List (Str × Value)), (∀ q ∈ l, q.1 ≠ p) → ((l ++ (p, v) :: ps.zip vs).lookup p) = some v := by
      intro l
      induction l with
      | nil => intro _; simp [List.lookup_cons]
      | cons a l ih =>
        intro h
        have h1 : p ≠ a.1 := fun e => h a (List.mem_cons_self ..) e.symm
        rw [List.cons_append, List.lookup_cons, beq_false_of_ne h1]
        exact ih fun q hq => h q (List.mem_cons_of_mem _ hq)
    rw [List.zip_cons_cons, List.filterMap_cons, look pre fun q hq e => hp q hq (by rw [e]; exact List.mem_cons_self ..)]
    have := filterMap_zip hn.2 (by simpa using hl) (pre ++ [(p, v)]) (by
      intro q hq
      rcases List.mem_append.mp hq with z | z
      · exact fun e => hp q z (List.mem_cons_of_mem _ e)
      · simp only [List.mem_singleton] at z; rw [z]; exact hn.1)
    rw [List.append_assoc] at this
    simp only [Option.map_some]
    congr 1

theorem bind_plain2 {f : Str} {ar : List Arg} {kd : List (Option Expr)} {df : List Expr} {body : List Stmt} {scope : Scope} {pm code doc : Value} {vs : List Value} (hn : (ar.map (·.arg)).Nodup) (hl : vs.length = (ar.map (·.arg)).length) :
    bindArgs (Calls.docDef f ⟨[], ar, none, [], kd, none, df⟩ body scope pm code doc) ⟨vs, []⟩ = pure ((ar.map (·.arg)).zip vs) := by
  have e2 : (List.filter (fun n => (List.lookup n ((ar.map (·.arg)).zip vs)).isNone) (List.take (ar.map (·.arg)).length (ar.map (·.arg)))) = [] := by
    rw [List.take_length, List.filter_eq_nil_iff]
    intro x hx
    have := zip_lookup_some hl x hx
    rw [Bool.not_eq_true, Option.isNone_eq_false_iff]; exact this
  have e3 := filterMap_zip hn hl [] (by simp)
  have e1 : (decide (vs.length > (ar.map (·.arg)).length) && true) = false := by rw [hl]; simp
  unfold bindArgs Calls.docDef
  dsimp only
  rw [List.nil_append] at e3
  have e0 : seqItems? Value.none = pure none := rfl
  generalize ar.map (·.arg) = ps at *
  simp only [List.map_nil, List.nil_append, List.append_nil, List.forIn_nil, pure_bind, e0, e1, Option.isNone_none, Bool.false_eq_true, if_false, Option.getD_none, List.length_nil, Nat.sub_zero, List.drop_nil, e2, List.isEmpty_nil, Bool.not_true, List.zip_nil_right, e3]
theorem bind_plain {f : Str} {params : Arguments} {body : List Stmt} {scope : Scope} {pm code doc : Value} {vs : List Value} (hp : plainP params = true) (hn : (params.args.map (·.arg)).Nodup) (hl : vs.length = (params.args.map (·.arg)).length) :
    bindArgs (Calls.docDef f params body scope pm code doc) ⟨vs, []⟩ = pure ((params.args.map (·.arg)).zip vs) := by
  obtain ⟨po, ar, va, ko, kd, ka, df⟩ := params
  unfold plainP at hp
  simp only [Bool.and_eq_true, List.isEmpty_iff, Option.isNone_iff_eq_none] at hp
  obtain ⟨⟨⟨p1, p2⟩, p3⟩, p4⟩ := hp
  subst p1; subst p2; subst p3; subst p4
  exact bind_plain2 hn hl

theorem walls {q : Program} {d : DefRec} (h : d ∈ recsOf q) (hs : statOk q = true) : plainP d.params = true ∧ fnOk ⟨d.params.args.map (·.arg), d.body, d.scope⟩ = true := by
  unfold statOk at hs
  rw [List.all_eq_true] at hs
  have := hs d h
  rwa [Bool.and_eq_true] at this

theorem fns_mem {q : Program} {f : Str} {fn : Fn} (h : (fnsR q).lookup f = some fn) : ∃ d ∈ recsOf q, d.name = f ∧ fn = ⟨d.params.args.map (·.arg), d.body, d.scope⟩ := by
  have := lookup_memP h
  unfold fnsR at this
  obtain ⟨d, hd, e⟩ := List.mem_map.mp this
  cases e
  exact ⟨d, hd, rfl, rfl⟩

theorem ints_rd {P : Params} {h : Heap} : ∀ {vs : List Value} {xs : List Int}, WellAll P h vs (ofPys (xs.map PyData.int)) → RdAll P ⟨[], []⟩ h vs (xs.map D.int)
  | _, [], w => by
    have w' : WellAll P h _ [] := w
    cases w'; exact .nil
  | _, x :: xs, w => by
    have w' : WellAll P h _ (WData.int x :: ofPys (xs.map PyData.int)) := w
    cases w' with | cons a b =>
    cases a
    exact .cons (.int _ _) (ints_rd b)

noncomputable def clsOf (C : Cfg) (mg : Str → Option Value) (c : Str) : Option Addr := if (C.excs.lookup c).isSome then (match mg c with
  | some (.ref a) => some a
  | _ => none) else none
/-- a law holds if the evaluator says True at every script -/
theorem law_walk {l : OpenLaw} {q : Program} {loose : List Str} {XP : (Str → Option Value) → Heap → Prop} {YP : World → Heap → Prop} {d : DefRec} {kwd : List (Str × Expr)} (hm : l.most = some 63) (hb : l.bound = none) (C : Cfg) (n : Nat) (fn : Fn)
    (hn : n ≤ 500) (hfns : C.fns = fnsR q) (hst : statOk q = true) (hmiss : missOk q (looseW q loose) = true) (himp : importsNone q = true) (htree : l.prog.given.tree = none)
    (hconst : ∀ (w : World) (h : Heap) (mg : Str → Option Value), YP w h → h.Ns mainGlobals mg → ∀ x d, C.consts.lookup x = some d → ∃ v, mg x = some v ∧ Rd w.params ⟨[], []⟩ h v d)
    (hmeths : ∀ m i, C.meths.lookup m = some i → MImpl.Sound m i) (hbfs : ∀ x i, C.bfs.lookup x = some i → BImpl.Sound x i) (hrev : C.rev = true → RevSound) (hmul : ∀ p, C.mul p = true → MulSound) (hxp : ∀ G : Glo, G.C = C → G.cls = clsOf C G.mg → G.Ok → YP G.w G.B.heap → ExcPart G) (hlaw : C.fns.lookup d.name = some fn) (law : ∀ xs : List Int, xs.length ≤ 63 → ∃ S', runFn C (callF C n) fn [.list (xs.map D.int)] [] = .ok (.bool true) S') :
    WalkO q loose XP YP l.row.toRowW d kwd (fun f vs => PySem.call f vs) := by
  intro w s₀ s₁ mg mb G Y fa o pm cd doc dV kV ho hd hcd hD hmg hg args vals as hpre hlay hrd hwl hlo
  have hsh := (pre_splitW hpre).1
  have hcond := (pre_splitW hpre).2
  have hsh' : WShape.hasAll [] args [.list .int] = true := hsh
  have hcond' : l.pre.holds [] { args := args } = true := hcond
  have hrd' : ReadsAllW [] (classAt s₀.heap) s₁.heap vals args as := hrd
  unfold OpenLaw.pre at hcond'
  rw [hm, hb] at hcond'
  clear hsh hcond hrd
  wrow_hasAll hsh' hlay
  wrow_readAll hrd' hwl hlo
  w_cond hcond'
  rename_i xs _ _ _ _ _ _ _ ra vs0 _ hL _ w1 _ _ _ hlen _
  have T := G.T
  have hlen' : xs.length ≤ 63 := by omega
  let GG : Glo := ⟨l.prog, w, C, s₁, mg, mb, clsOf C mg⟩
  have K : GG.Ok := {
    g := T.g
    b := T.b
    nolimit := T.nolimit
    seer := T.seer himp
    tree := htree
    builtins := T.builtins
    fn := fun f fn' hf => by
      have hf' : (fnsR q).lookup f = some fn' := hfns ▸ hf
      obtain ⟨dd, hdd, rfl, rfl⟩ := fns_mem hf'
      obtain ⟨a, o, pm, code, doc, e1, e2, e3, e4⟩ := T.fn dd hdd
      obtain ⟨w1, w2⟩ := walls hdd hst
      exact ⟨a, o, dd.params, pm, code, doc, e1, e2, e3, e4, w2, fun vs hl => bind_plain w1 (fnOk_inv w2).2.2.2.1 hl⟩
    miss := fun x hx => by
      have h0 : missOk q (looseW q loose) = true := hmiss
      unfold missOk at h0
      rw [List.all_eq_true] at h0
      have := h0 x hx
      simp only [Bool.and_eq_true, Bool.not_eq_true', List.contains_eq_mem, decide_eq_false_iff_not] at this
      obtain ⟨⟨⟨⟨a1, a2⟩, a3⟩, a4⟩, a5⟩ := this
      exact T.free x a1 a2 a3 a4 a5
    const := fun x d hx => hconst w s₁.heap mg Y T.g x d hx
    meths := hmeths
    bfs := hbfs
    rev := hrev
    mul := hmul }
  have I : Inv GG [] ⟨[], []⟩ [] s₁ := ⟨fun _ _ e => e, by simp, by simp, by simp, by simp, by simp, rfl, by simp, (fun _ he => nomatch he), hg, rfl⟩
  have hw : Well w.params s₁.heap (.ref ra) (.list (ofPys (xs.map PyData.int))) := w1
  have rv : Rd w.params ⟨[], []⟩ s₁.heap (.ref ra) (.list (xs.map D.int)) := by
    cases hw with | list e1 e2 =>
    have r := ints_rd e2
    refine .list (by simp) (by simp) e1 ?_ (by simpa using r)
    have := r.length
    simp only [List.length_map] at this
    show _ ≤ 16777216
    simp only [List.size_toArray]
    omega
  obtain ⟨S', hS'⟩ := law xs hlen'
  have XP : ExcPart GG := hxp GG rfl rfl K Y
  have W := call_ok (G := GG) (A := callerA) (fs := []) K XP (callF_ok K XP n) rfl rfl (by
    show 1 + claimMargin + (n + 1) ≤ 850
    have : claimMargin = 300 := by decide
    omega) (by show 4 + 4 * (n + 1) ≤ 8900; omega) I hlaw hmg (RdAll.cons rv .nil)
  have hne : runFn GG.C (callF GG.C n) fn [.list (xs.map D.int)] [] ≠ .stuck := by
    show runFn C (callF C n) fn [.list (xs.map D.int)] [] ≠ .stuck
    rw [hS']; intro q; cases q
  refine wpAny_mono (W hne) (fun v s' p => ?_) fun _ _ p => (by
    obtain ⟨c, S2, H2, hs, e, _⟩ := p
    have e' : runFn C (callF C n) fn [.list (xs.map D.int)] [] = .exc c S2 := e
    rw [hS'] at e'; cases e')
  obtain ⟨a, S2, H2, e1, x, J, r⟩ := p
  have e1' : runFn C (callF C n) fn [.list (xs.map D.int)] [] = .ok a S2 := e1
  rw [hS'] at e1'
  cases e1'
  cases r
  refine GoodW.toG ⟨.inl ⟨.bool true, .bool true, [], rfl, fun _ => rfl, .bool true, ?_, fun _ => ⟨List.nodup_nil, by simp⟩⟩, J.stays, J.os, J.gens⟩
  first | wrow_post | (with_unfolding_all rfl)
end Mine
end

section
open PySem PySem.W PyProof.Rows
set_option maxRecDepth 100000
namespace Mine

mutual
/-- a value of the fragment reads as the datum says (no dicts) -/
noncomputable def rdK (K : Heap) : Value → D → Bool
  | v, .none => (match v with
    | .none => true
    | _ => false)
  | v, .bool c => (match v with
    | .bool b => b == c
    | _ => false)
  | v, .int j => (match v with
    | .int i _ => i == j
    | _ => false)
  | v, .str y => (match v with
    | .str x _ => x == y && PyData.strOk y && decide (y.length ≤ sizeLine)
    | _ => false)
  | v, .tuple ds => (match v with
    | .ref a => (match K.get? a with
      | some ⟨.type c, none, .seq vs _, sl⟩ => c == "tuple" && sl.isEmpty && decide (vs.size ≤ sizeLine) && rdKs K vs.toList ds
      | _ => false)
    | _ => false)
  | _, _ => false
noncomputable def rdKs (K : Heap) : List Value → List D → Bool
  | [], [] => true
  | v :: vs, d :: ds => rdK K v d && rdKs K vs ds
  | _, _ => false
end
theorem arr_nil {α : Type} {a : Array α} (h : a.isEmpty = true) : a = #[] := by simpa using h
mutual
theorem rdK_ok {K : Heap} {P : Params} : ∀ (d : D) (v : Value), rdK K v d = true → Rd P ⟨[], []⟩ K v d
  | .none, v, e => by
    unfold rdK at e
    split at e
    · exact .none
    · cases e
  | .bool c, v, e => by
    unfold rdK at e
    split at e
    · rename_i b; rw [beq_iff_eq.mp e]; exact .bool c
    · cases e
  | .int j, v, e => by
    unfold rdK at e
    split at e
    · rename_i i t; rw [beq_iff_eq.mp e]; exact .int j t
    · cases e
  | .str y, v, e => by
    unfold rdK at e
    split at e
    · rename_i x t
      simp only [Bool.and_eq_true, decide_eq_true_eq, beq_iff_eq] at e
      obtain ⟨⟨e1, e2⟩, e3⟩ := e
      rw [e1]; exact .str y t e2 e3
    · cases e
  | .tuple ds, v, e => by
    unfold rdK at e
    split at e
    · rename_i a
      split at e
      · rename_i c vs n sl hl
        simp only [Bool.and_eq_true, decide_eq_true_eq, beq_iff_eq] at e
        obtain ⟨⟨⟨e1, e2⟩, e3⟩, e4⟩ := e
        have hh := hl
        rw [e1, arr_nil e2] at hh
        exact .tuple (by simp) (by simp) hh e3 (rdKs_ok ds _ e4)
      · cases e
    · cases e
  | .list _, _, e => by unfold rdK at e; cases e
  | .dict _, _, e => by unfold rdK at e; cases e
  | .range _ _, _, e => by unfold rdK at e; cases e
  | .exn _, _, e => by unfold rdK at e; cases e
  | .loc _, _, e => by unfold rdK at e; cases e
theorem rdKs_ok {K : Heap} {P : Params} : ∀ (ds : List D) (vs : List Value), rdKs K vs ds = true → RdAll P ⟨[], []⟩ K vs ds
  | [], [], _ => .nil
  | [], _ :: _, e => by unfold rdKs at e; cases e
  | _ :: _, [], e => by unfold rdKs at e; cases e
  | d :: ds, v :: vs, e => by
    unfold rdKs at e
    rw [Bool.and_eq_true] at e
    exact .cons (rdK_ok d v e.1) (rdKs_ok ds vs e.2)
end
/-- a dict's entries, but for their hashes -/
noncomputable def entK (K : Heap) : List DictEntry → List (Str × D) → Bool
  | [], [] => true
  | e :: es, (x, d) :: r => (match e.key with
    | .str y _ => y == x && PyData.strOk x && decide (x.length ≤ sizeLine)
    | _ => false) && rdK K e.val d && entK K es r
  | _, _ => false
theorem entK_ok {K : Heap} {P : Params} : ∀ (es : List DictEntry) (kvs : List (Str × D)), entK K es kvs = true → es.map (·.hash) = kvs.map (fun p => PyData.keyHash P p.1) → RdEnts P ⟨[], []⟩ K es kvs
  | [], [], _, _ => .nil
  | [], _ :: _, e, _ => by unfold entK at e; cases e
  | _ :: _, [], e, _ => by unfold entK at e; cases e
  | e :: es, (x, d) :: r, q, hh => by
    unfold entK at q
    simp only [Bool.and_eq_true] at q
    obtain ⟨⟨q1, q2⟩, q3⟩ := q
    rw [List.map_cons, List.map_cons, List.cons.injEq] at hh
    split at q1
    · rename_i y t hk
      simp only [Bool.and_eq_true, decide_eq_true_eq, beq_iff_eq] at q1
      obtain ⟨⟨e1, e2⟩, e3⟩ := q1
      rw [e1] at hk
      exact .cons hk e2 e3 hh.1 (rdK_ok d _ q2) (entK_ok es r q3 hh.2)
    · cases q1
noncomputable def constK (K : Heap) (x : Str) (d : D) : Bool := match K.nsMap mainGlobals x with
  | some v => (match d with
    | .dict kvs => (match v with
      | .ref a => (match K.get? a with
        | some ⟨.type c, none, .dict es _, sl⟩ => c == "dict" && sl.isEmpty && decide (es.size ≤ sizeLine) && decide (a ≠ sysModules) && decide ((kvs.map (·.1)).Nodup) && entK K es.toList kvs
        | _ => false)
      | _ => false)
    | d => rdK K v d)
  | _ => false
noncomputable def constHs (K : Heap) (x : Str) (d : D) : List Int := match d with
  | .dict _ => (match K.nsMap mainGlobals x with
    | some (.ref a) => (match K.get? a with
      | some ⟨_, _, .dict es _, _⟩ => es.toList.map (·.hash)
      | _ => [])
    | _ => [])
  | _ => []
noncomputable def dueHs (P : Params) (d : D) : List Int := match d with
  | .dict kvs => kvs.map fun p => PyData.keyHash P p.1
  | _ => []
theorem constK_ok {K : Heap} {P : Params} {x : Str} {d : D} (e : constK K x d = true) (hh : constHs K x d = dueHs P d) : ∃ v, K.nsMap mainGlobals x = some v ∧ Rd P ⟨[], []⟩ K v d := by
  unfold constK at e
  split at e
  · rename_i v hv
    refine ⟨v, hv, ?_⟩
    split at e
    · rename_i kvs
      split at e
      · rename_i a
        unfold constHs dueHs at hh
        dsimp only at hh
        rw [hv] at hh
        dsimp only at hh
        split at e
        · rename_i c es n sl hl
          rw [hl] at hh
          dsimp only at hh
          simp only [Bool.and_eq_true, decide_eq_true_eq, beq_iff_eq] at e
          obtain ⟨⟨⟨⟨⟨e1, e2⟩, e3⟩, e4⟩, e5⟩, e6⟩ := e
          have ho := hl
          rw [e1, arr_nil e2] at ho
          exact .dict (by simp) (by simp) ho e3 e5 (entK_ok _ _ e6 hh) e4
        · cases e
      · cases e
    · exact rdK_ok _ _ e
  · cases e
theorem mem_of_lookup {cs : List (Str × D)} {x : Str} {d : D} (h : cs.lookup x = some d) : (x, d) ∈ cs := by
  induction cs with
  | nil => cases h
  | cons p cs ih =>
    obtain ⟨y, e⟩ := p
    rw [List.lookup_cons] at h
    by_cases hx : (x == y) = true
    · rw [hx] at h; cases h; rw [beq_iff_eq.mp hx]; exact List.mem_cons_self ..
    · have hx' : (x == y) = false := by simpa using hx
      rw [hx'] at h; exact List.mem_cons_of_mem _ (ih h)
/-- what the tables say, with one more word Z -/
noncomputable def Says (cs : List (Str × D)) (Z : (Str → Option Value) → Heap → Prop) (w : World) (h : Heap) : Prop :=
  ∃ mg, h.Ns mainGlobals mg ∧ (∀ x d, cs.lookup x = some d → ∃ v, mg x = some v ∧ Rd w.params ⟨[], []⟩ h v d) ∧ Z mg h
noncomputable def myHook (cs : List (Str × D)) (B : Heap → Bool) (Z : (Str → Option Value) → Heap → Prop) (hB : ∀ h, B h = true → h.isNs mainGlobals = true → Z (h.nsMap mainGlobals) h) (hZ : ∀ mg h h', Z mg h → (∀ b o, h.get? b = some o → h'.get? b = some o) → Z mg h') : Hook where
  α := Bool × List (List Int)
  obs s := (s.heap.isNs mainGlobals && (cs.all fun p => constK s.heap p.1 p.2) && B s.heap, cs.map fun p => constHs s.heap p.1 p.2)
  val w := (true, cs.map fun p => dueHs w.params p.2)
  says := Says cs Z
  of w s e := by
    have e1 : (_ && _) = true := congrArg Prod.fst e
    have e2 := congrArg Prod.snd e
    simp only [Bool.and_eq_true] at e1
    obtain ⟨⟨h1, h2⟩, h3⟩ := e1
    refine ⟨_, .of_isNs h1, fun x d hl => ?_, hB _ h3 h1⟩
    have hm := mem_of_lookup hl
    exact constK_ok (List.all_eq_true.mp h2 (x, d) hm) (List.map_inj_left.mp e2 (x, d) hm)
  keeps w h h' p k := by
    obtain ⟨mg, h1, h2, h3⟩ := p
    refine ⟨mg, h1.keeps k, fun x d hl => ?_, hZ mg h h' h3 k⟩
    obtain ⟨v, e1, e2⟩ := h2 x d hl
    exact ⟨v, e1, Rd.ext (H := ⟨[], []⟩) (H' := ⟨[], []⟩) (fun b o a c e => ⟨a, c, k b o e⟩) (fun _ _ e => e) e2⟩
theorem Says.const {cs : List (Str × D)} {Z : (Str → Option Value) → Heap → Prop} {w : World} {h : Heap} {mg : Str → Option Value} (p : Says cs Z w h) (g : h.Ns mainGlobals mg) {x : Str} {d : D} (hl : cs.lookup x = some d) : ∃ v, mg x = some v ∧ Rd w.params ⟨[], []⟩ h v d := by
  obtain ⟨mg', h1, h2, _⟩ := p
  have : mg' = mg := h1.eq_nsMap.trans g.eq_nsMap.symm
  subst this
  exact h2 x d hl
theorem Says.more {cs : List (Str × D)} {Z : (Str → Option Value) → Heap → Prop} {w : World} {h : Heap} {mg : Str → Option Value} (p : Says cs Z w h) (g : h.Ns mainGlobals mg) : Z mg h := by
  obtain ⟨mg', h1, _, h3⟩ := p
  have : mg' = mg := h1.eq_nsMap.trans g.eq_nsMap.symm
  subst this
  exact h3
/-- no exceptions -/
theorem excPart_no {G : Glo} (h0 : G.C.excs = []) (h1 : ∀ c, G.cls c = none) : ExcPart G := by
  refine ⟨fun hfr p => ?_⟩
  obtain ⟨c, S', H', hs, _, _, _, ea, C, oe, vs, a0, _, q, _⟩ := p
  rw [h1 c] at q; cases q
end Mine
end

section
set_option maxRecDepth 100000
namespace Mine
open PySem

noncomputable def andM (m k : EM Bool) : EM Bool := bnd m fun t => match t with
  | true => k
  | false => ret false
noncomputable def orM (m k : EM Bool) : EM Bool := bnd m fun t => match t with
  | true => ret true
  | false => k
noncomputable def andV (m k : EM D) : EM D := bnd m fun a => bnd (truthM a) fun t => match t with
  | true => k
  | false => ret a
noncomputable def orV (m k : EM D) : EM D := bnd m fun a => bnd (truthM a) fun t => match t with
  | true => ret a
  | false => k
noncomputable def notM (m : EM Bool) : EM Bool := bnd m fun b => ret (!b)
noncomputable def ifM (m : EM Bool) (a b : EM Fl) : EM Fl := bnd m fun c => if c then a else b
noncomputable def seqM (m : EM Fl) (k : Sg → EM Fl) : EM Fl := bnd m fun f => match f with
  | .next σ => k σ
  | .ret d => ret (.ret d)
noncomputable def consM (m : EM D) (k : EM (List D)) : EM (List D) := bnd m fun d => bnd k fun ds => ret (d :: ds)
noncomputable def tupM (m : EM (List D)) : EM D := bnd m fun ds => if ds.length ≤ sizeLine then ret (.tuple ds) else stk
/-- a config that owns nothing, and no place -/
noncomputable def cfg0 : Cfg := { fns := [], consts := [] }
noncomputable def pos0 : Pos := ⟨0, 0, 0, 0⟩
noncomputable def cfgX (X : List (Str × List Str)) : Cfg := { fns := [], consts := [], excs := X }
noncomputable def bin0 (op : Operator) (a b : D) : EM D := binop cfg0 pos0 op a b
noncomputable def bf0 (f : Bf) (ds : List D) : EM D := bfM cfg0 pos0 f ds
noncomputable def sli0 (a lo hi : D) : EM D := sliceM cfg0 pos0 a lo hi
noncomputable def lst0 (m : EM (List D)) : EM D := bnd m fun ds => if ds.length ≤ sizeLine then mkList cfg0 pos0 ds else stk
noncomputable def isaX (X : List (Str × List Str)) (t : Str) (m : EM D) : EM D := bnd m fun a => if isaOk (cfgX X) a t then bnd (isaM (cfgX X) a t) fun b => ret (.bool b) else stk
noncomputable def finM (m : EM Fl) : EM D := bnd m fun f => match f with
  | .ret d => ret d
  | .next _ => ret .none
noncomputable def forM' (m : EM D) (body : D → Sg → EM Fl) (σ : Sg) : EM Fl := bnd m fun it => bnd (optM (itemsOf it)) fun ds => forL body ds σ
noncomputable def comp0 (m : EM D) (turn : D → EM (Option D)) : EM D := bnd m fun it => bnd (optM (itemsOf it)) fun ds => bnd (compL turn ds) fun ys => mkList cfg0 pos0 ys
noncomputable def turnS (t : EM Bool) (e : EM D) : EM (Option D) := bnd t fun ok => if ok then bnd e fun y => ret (some y) else ret none
noncomputable def cmpS (op : CmpOp) (l r : EM D) : EM Bool := bnd l fun a => bnd r fun b => cmpM op a b
noncomputable def subS (v i : EM D) : EM D := bnd v fun a => bnd i fun i => itemM a i
noncomputable def sliS (v lo hi : EM D) : EM D := bnd v fun a => bnd lo fun l => bnd hi fun h => sli0 a l h
noncomputable def binS (op : Operator) (l r : EM D) : EM D := bnd l fun a => bnd r fun b => bin0 op a b
noncomputable def methS (i : MImpl) (o : EM D) (as : EM (List D)) : EM D := bnd o fun a => bnd (methK i a) fun _ => bnd as fun ds => i.run a ds
noncomputable def cmpB (op : CmpOp) (l r : EM D) : EM D := bnd l fun a => bnd (bnd r fun b => cmpM op a b) fun c => ret (.bool c)
noncomputable def chain1 (op : CmpOp) (a : D) (r : EM D) : EM Bool := bnd r fun b => cmpM op a b
noncomputable def chainS (op : CmpOp) (a : D) (r : EM D) (k : D → EM Bool) : EM Bool := bnd r fun b => bnd (cmpM op a b) fun c => if c then k b else ret false
noncomputable def putIs : List Nat → List D → Sg → Option Sg
  | [], [], σ => some σ
  | i :: is, d :: ds, σ => putIs is ds (put σ i d)
  | _, _, _ => none
noncomputable def asgT (is : List Nat) (σ : Sg) (v : EM D) : EM Fl := bnd v fun d => match d with
  | .tuple ds => bnd (optM (putIs is ds σ)) fun σ' => ret (.next σ')
  | _ => stk
noncomputable def callN (cf : Str → List D → EM D) (f : Str) (m : EM (List D)) : EM D := bnd m fun ds => calm (cf f ds)
noncomputable def nxt (σ : Sg) : EM Fl := ret (.next σ)
noncomputable def bfS (i : BImpl) (own : Bool) (m : EM (List D)) : EM D := bnd m fun ds => i.run own ds
noncomputable def lstO' (m : EM (List D)) : EM D := bnd m fun ds => if ds.length ≤ sizeLine then mkL true ds else stk
noncomputable def revS (m : EM D) : EM D := bnd m fun a => onTup a (fun ds => ret (.tuple ds.reverse)) stk
/-- a config that owns all -/
noncomputable def cfgO : Cfg := { fns := [], consts := [], own := fun _ => true }
noncomputable def binO (op : Operator) (l r : EM D) : EM D := bnd l fun a => bnd r fun b => binop cfgO pos0 op a b
noncomputable def cfgM : Cfg := { fns := [], consts := [], mul := fun _ => true }
noncomputable def binMu (op : Operator) (l r : EM D) : EM D := bnd l fun a => bnd r fun b => binop cfgM pos0 op a b
noncomputable def compO (m : EM D) (turn : D → EM (Option D)) : EM D := bnd m fun it => bnd (optM (itemsOf it)) fun ds => bnd (compL turn ds) fun ys => mkL true ys
end Mine
end

section
set_option maxRecDepth 100000
namespace Mine
open PySem

section
variable {α β γ : Type}
theorem bnd_ret (a : α) (f : α → EM β) : bnd (ret a) f = f a := rfl
theorem bnd_assoc (m : EM α) (f : α → EM β) (g : β → EM γ) : bnd (bnd m f) g = bnd m fun a => bnd (f a) g := by
  funext S
  unfold bnd
  cases m S <;> rfl
end
theorem seqM_next (σ : Sg) (k : Sg → EM Fl) : seqM (ret (.next σ)) k = k σ := rfl
theorem seqM_ret (d : D) (k : Sg → EM Fl) : seqM (ret (.ret d)) k = ret (.ret d) := rfl
theorem seqM_bnd {α : Type} (m : EM α) (f : α → EM Fl) (k : Sg → EM Fl) : seqM (bnd m f) k = bnd m fun a => seqM (f a) k := bnd_assoc _ _ _
theorem seqM_seq (m : EM Fl) (f k : Sg → EM Fl) : seqM (seqM m f) k = seqM m fun σ => seqM (f σ) k := by
  funext S
  unfold seqM bnd
  cases m S with
  | ok a S' => cases a <;> rfl
  | _ => rfl
theorem finM_ret (d : D) : finM (ret (.ret d)) = ret d := rfl
theorem ifM_true (a b : EM Fl) : ifM (ret true) a b = a := rfl
theorem ifM_false (a b : EM Fl) : ifM (ret false) a b = b := rfl
theorem andM_t (k : EM Bool) : andM (ret true) k = k := rfl
theorem andM_f (k : EM Bool) : andM (ret false) k = ret false := rfl
theorem orM_f (k : EM Bool) : orM (ret false) k = k := rfl
theorem andM_rr (a b : Bool) : andM (ret a) (ret b) = ret (a && b) := by cases a <;> rfl
theorem orM_rr (a b : Bool) : orM (ret a) (ret b) = ret (a || b) := by cases a <;> rfl
theorem notM_ret (b : Bool) : notM (ret b) = ret (!b) := rfl
theorem consM_ret (d : D) (ds : List D) : consM (ret d) (ret ds) = ret (d :: ds) := rfl
theorem tupM_ret (ds : List D) (h : ds.length ≤ 100) : tupM (ret ds) = ret (.tuple ds) := by
  show (if ds.length ≤ sizeLine then ret (D.tuple ds) else stk) = _
  rw [if_pos (Nat.le_trans h (by decide))]
theorem lst0_ret (ds : List D) (h : ds.length ≤ 100) : lst0 (ret ds) = ret (.list ds) := by
  show (if ds.length ≤ sizeLine then mkList cfg0 pos0 ds else stk) = _
  rw [if_pos (Nat.le_trans h (by decide))]
  rfl
theorem callN_ret (cf : Str → List D → EM D) (f : Str) (ds : List D) : callN cf f (ret ds) = calm (cf f ds) := rfl
theorem calm_ret {α : Type} (a : α) : calm (ret a) = ret a := rfl
theorem cmpS_ret (op : CmpOp) (a b : D) : cmpS op (ret a) (ret b) = cmpM op a b := rfl
theorem cmpB_ret (op : CmpOp) (a b : D) : cmpB op (ret a) (ret b) = bnd (cmpM op a b) fun c => ret (.bool c) := rfl
theorem subS_ret (a i : D) : subS (ret a) (ret i) = itemM a i := rfl
theorem sliS_ret (a l h : D) : sliS (ret a) (ret l) (ret h) = sli0 a l h := rfl
theorem binS_ret (op : Operator) (a b : D) : binS op (ret a) (ret b) = bin0 op a b := rfl

theorem isa_bool (C : List (Str × List Str)) (x : Bool) : isaX C (Str.ofString "bool") (ret (.bool x)) = ret (.bool true) := by rfl
theorem truth_bool (b : Bool) : truthM (.bool b) = ret b := rfl

/-- data without dicts, ranges, exceptions and places -/
noncomputable def Pl (d : D) : Prop := ∃ p, d.py = some p
theorem Pl.tuple {ds : List D} (h : Pl (.tuple ds)) : ∃ ps, D.pys ds = some ps := by
  obtain ⟨p, e⟩ := h
  unfold D.py at e
  cases hp : D.pys ds with
  | none => rw [hp] at e; cases e
  | some ps => exact ⟨ps, rfl⟩
theorem Pl.list {ds : List D} (h : Pl (.list ds)) : ∃ ps, D.pys ds = some ps := by
  obtain ⟨p, e⟩ := h
  unfold D.py at e
  cases hp : D.pys ds with
  | none => rw [hp] at e; cases e
  | some ps => exact ⟨ps, rfl⟩
theorem pys_cons {d : D} {ds : List D} {ps : List PyData} (h : D.pys (d :: ds) = some ps) : ∃ p qs, ps = p :: qs ∧ d.py = some p ∧ D.pys ds = some qs := by
  unfold D.pys at h
  cases h1 : d.py with
  | none => rw [h1] at h; cases h
  | some p =>
    cases h2 : D.pys ds with
    | none => rw [h1, h2] at h; cases h
    | some qs => rw [h1, h2] at h; cases h; exact ⟨p, qs, rfl, rfl, rfl⟩
theorem pys_of : ∀ {ds : List D}, (∀ d ∈ ds, Pl d) → ∃ ps, D.pys ds = some ps
  | [], _ => ⟨[], rfl⟩
  | d :: ds, h => by
    obtain ⟨p, e⟩ := h d (List.mem_cons_self ..)
    obtain ⟨qs, e'⟩ := pys_of fun x hx => h x (List.mem_cons_of_mem _ hx)
    exact ⟨p :: qs, by unfold D.pys; rw [e, e']⟩
theorem pys_all : ∀ {ds : List D} {ps : List PyData}, D.pys ds = some ps → ∀ d ∈ ds, Pl d
  | [], _, _, d, h => by cases h
  | e :: ds, ps, h, d, hd => by
    obtain ⟨p, qs, _, h1, h2⟩ := pys_cons h
    rcases List.mem_cons.mp hd with q | q
    · subst q; exact ⟨p, h1⟩
    · exact pys_all h2 d q
theorem Pl.lst {ds : List D} (h : ∀ d ∈ ds, Pl d) : Pl (.list ds) := by
  obtain ⟨ps, e⟩ := pys_of h
  exact ⟨.list ps, by unfold D.py; rw [e]; rfl⟩
theorem Pl.mem {ds : List D} (h : Pl (.tuple ds)) : ∀ d ∈ ds, Pl d := let ⟨_, e⟩ := h.tuple; pys_all e
theorem eqM_str (x y : Str) : eqM (.str x) (.str y) = ret (x == y) := rfl
theorem eqM_int (i j : Int) : eqM (.int i) (.int j) = ret (i == j) := rfl
theorem eqM_bool (i j : Bool) : eqM (.bool i) (.bool j) = ret (i == j) := rfl
theorem pyAt_pl {d : D} {p : PyData} (h : d.py = some p) (S : Store) : pyAt S d = some p := by
  cases d with
  | loc n => cases h
  | _ => exact h
/-- among strs -/
theorem anyEq_strs (ys : List Str) (q : PyData) : anyEq (ys.map PyData.str) q = some (ys.any fun y => PyData.eqv (.str y) q) := by
  have hd : PyData.depthAll (ys.map PyData.str) ≤ 600 := by
    have : PyData.depthAll (ys.map PyData.str) = 0 := by
      induction ys with
      | nil => rfl
      | cons y ys ih => rw [List.map_cons]; show max (PyData.depth (.str y)) _ = 0; rw [ih]; rfl
    omega
  unfold anyEq
  rw [if_pos (decide_eq_true (Nat.le_trans (Nat.min_le_left _ _) hd)), List.any_map]
  rfl
theorem pys_strs (ys : List Str) : D.pys (ys.map D.str) = some (ys.map PyData.str) := by
  induction ys with
  | nil => rfl
  | cons y ys ih => rw [List.map_cons, List.map_cons]; unfold D.pys; rw [ih]; rfl
theorem inL_strs {d : D} {p : PyData} (h : d.py = some p) (ys : List Str) : inL (ys.map D.str) d = ret (ys.any fun y => PyData.eqv (.str y) p) := by
  funext S
  unfold inL
  rw [pys_strs, pyAt_pl h]
  show optM (anyEq (ys.map PyData.str) p) S = _
  rw [anyEq_strs]; rfl
theorem inM_lst {d : D} {p : PyData} (h : d.py = some p) (ys : List Str) : inM d (.list (ys.map D.str)) = ret (ys.any fun y => PyData.eqv (.str y) p) := inL_strs h ys
/-- a comprehension that gives one of each -/
theorem compL_map {turn : D → EM (Option D)} {Q : D → Prop} : ∀ (ds : List D), (∀ d ∈ ds, ∃ y, Q y ∧ turn d = ret (some y)) → ∃ ys, ys.length = ds.length ∧ (∀ y ∈ ys, Q y) ∧ compL turn ds = ret ys
  | [], _ => ⟨[], rfl, by simp, rfl⟩
  | d :: ds, h => by
    have q : compL turn (d :: ds) = bnd (turn d) fun x => bnd (compL turn ds) fun ys => ret (match x with
      | some y => y :: ys
      | none => ys) := rfl
    obtain ⟨y, h1, h2⟩ := h d (List.mem_cons_self ..)
    obtain ⟨ys, h3, h4, h5⟩ := compL_map ds fun x hx => h x (List.mem_cons_of_mem _ hx)
    refine ⟨y :: ys, by simp [h3], ?_, ?_⟩
    · intro z hz
      rcases List.mem_cons.mp hz with e | e
      · rw [e]; exact h1
      · exact h4 z e
    · rw [q, h2, bnd_ret, h5, bnd_ret]

theorem seqIndex_nat {k n : Nat} (h : k < n) : seqIndex? (k : Int) n = some k := by
  unfold seqIndex?
  have h1 : ¬ ((k : Int) < 0) := by omega
  simp only [h1, if_false]
  have h2 : (0 : Int) ≤ k ∧ (k : Int) < n := by omega
  simp [h]
theorem itemT_at {ds : List D} {k : Nat} {d : D} (h : ds[k]? = some d) : itemM (.tuple ds) (.int k) = ret d := by
  funext S
  show optM ((seqIndex? (k : Int) ds.length).bind (ds[·]?)) S = _
  rw [seqIndex_nat (List.getElem?_eq_some_iff.mp h).1]
  show optM (ds[k]?) S = _
  rw [h]; rfl
theorem itemL_at {ds : List D} {k : Nat} {d : D} (h : ds[k]? = some d) : itemM (.list ds) (.int k) = ret d := by
  funext S
  show optM ((seqIndex? (k : Int) ds.length).bind (ds[·]?)) S = _
  rw [seqIndex_nat (List.getElem?_eq_some_iff.mp h).1]
  show optM (ds[k]?) S = _
  rw [h]; rfl
theorem lk0 {σ : Sg} {d : D} : lk (some d :: σ) 0 = ret d := rfl
theorem lkS {σ : Sg} {o : Option D} {n : Nat} : lk (o :: σ) (n + 1) = lk σ n := by unfold lk; rw [List.getElem?_cons_succ]
theorem put0 {σ : Sg} {o : Option D} {d : D} : put (o :: σ) 0 d = some d :: σ := rfl
theorem putS {σ : Sg} {o : Option D} {d : D} {n : Nat} : put (o :: σ) (n + 1) d = o :: put σ n d := rfl
end Mine
end

section
set_option maxRecDepth 100000
set_option maxHeartbeats 1000000
namespace Mine
open PySem

noncomputable def letter (d : D) : Bool := match d with
  | .str x => strIn x (Str.ofString "abcdefghijklmnopqrstuvwxyz")
  | _ => false
theorem len_str (x : Str) : bf0 .len [.str x] = ret (.int x.length) := rfl
theorem lt_ints (i j : Int) : cmpM .Lt (.int i) (.int j) = ret (decide (i < j)) := rfl
theorem eq_ints (i j : Int) : cmpM .Eq (.int i) (.int j) = ret (i == j) := rfl
theorem ne_ints (i j : Int) : cmpM .NotEq (.int i) (.int j) = ret (!(i == j)) := rfl
theorem sub_ints (i j : Int) : bin0 .Sub (.int i) (.int j) = ret (.int (i - j)) := rfl
noncomputable abbrev abc : Str := Str.ofString "abcdefghijklmnopqrstuvwxyz"
noncomputable def LC (c : Nat) : Prop := c ∈ abc.cps.toList

theorem add_ints (i j : Int) : bin0 .Add (.int i) (.int j) = ret (.int (i + j)) := rfl
theorem mod_ints (i j : Int) (h : j ≠ 0) : bin0 .Mod (.int i) (.int j) = ret (.int (i.fmod j)) := by
  show (if j = 0 then stk else _) = _
  rw [if_neg h]
theorem div_ints (i j : Int) (h : j ≠ 0) : bin0 .FloorDiv (.int i) (.int j) = ret (.int (i.fdiv j)) := by
  show (if j = 0 then stk else _) = _
  rw [if_neg h]
theorem mul_ints (i j : Int) (h1 : i.natAbs < 2 ^ 62) (h2 : j.natAbs < 2 ^ 62) : bin0 .Mult (.int i) (.int j) = ret (.int (i * j)) := by
  have : (small i && small j) = true := by unfold small; rw [Bool.and_eq_true]; exact ⟨decide_eq_true h1, decide_eq_true h2⟩
  show (if (small i && small j) = true then _ else stk) = _
  rw [if_pos this]
theorem add_strs (x y : Str) (h : x.length + y.length ≤ 100) : bin0 .Add (.str x) (.str y) = ret (.str (x ++ y)) := by
  show (if x.length + y.length ≤ sizeLine then _ else stk) = _
  rw [if_pos (Nat.le_trans h (by decide))]

theorem fmod_nat (i : Int) {n : Nat} (h : 0 < n) : ∃ k : Nat, k < n ∧ i.fmod n = k := by
  have h1 := Int.fmod_nonneg_of_pos i (b := (n : Int)) (by omega)
  have h2 := Int.fmod_lt_of_pos i (b := (n : Int)) (by omega)
  exact ⟨(i.fmod n).toNat, by omega, by omega⟩
theorem fmod_lit (i : Int) (n : Nat) (j : Int) (h : 0 < n) (e : j = (n : Int)) : ∃ k : Nat, k < n ∧ i.fmod j = k := by
  subst e; exact fmod_nat i h

theorem itemS_at {x : Str} {k : Nat} {c : Nat} (h : x.cps.toList[k]? = some c) : itemM (.str x) (.int k) = ret (.str ⟨#[c]⟩) := by
  have hk : k < x.length := by
    have := (List.getElem?_eq_some_iff.mp h).1
    show k < x.cps.size
    simpa using this
  funext S
  show optM (((seqIndex? (k : Int) x.length).bind (x.cps[·]?)).map fun c => D.str ⟨#[c]⟩) S = _
  rw [seqIndex_nat hk]
  show optM ((x.cps[k]?).map fun c => D.str ⟨#[c]⟩) S = _
  rw [← Array.getElem?_toList, h]; rfl
theorem letter_at (i : Int) : ∃ c, LC c ∧ itemM (.str abc) (.int (i.fmod 26)) = ret (.str ⟨#[c]⟩) := by
  obtain ⟨k, hk, e⟩ := fmod_lit i 26 26 (by decide) rfl
  have hl : k < abc.cps.toList.length := by
    have : abc.cps.toList.length = 26 := by decide +kernel
    omega
  rw [e]
  exact ⟨abc.cps.toList[k], List.getElem_mem hl, itemS_at (List.getElem?_eq_getElem hl)⟩
theorem index_all : (abc.cps.toList.all fun c => (strIndex abc ⟨#[c]⟩).isSome) = true := by decide +kernel
theorem index_of {c : Nat} (h : LC c) : ∃ k : Nat, strIndex abc ⟨#[c]⟩ = some k := by
  have := List.all_eq_true.mp index_all c h
  exact Option.isSome_iff_exists.mp this

noncomputable def chr1 (c : Nat) : Str := ⟨#[c]⟩
theorem join_chars : ∀ cs : List Nat, Str.join (Str.ofString "") (cs.map chr1) = ⟨cs.toArray⟩
  | [] => rfl
  | [c] => rfl
  | c :: d :: r => by
    have ih := join_chars (d :: r)
    show chr1 c ++ Str.ofString "" ++ Str.join (Str.ofString "") ((d :: r).map chr1) = _
    rw [ih]
    show (⟨#[c] ++ (Str.ofString "").cps ++ (d :: r).toArray⟩ : Str) = _
    congr 1
    have : (Str.ofString "").cps = #[] := rfl
    rw [this]
    simp
theorem strsOf_chars : ∀ cs : List Nat, strsOf (cs.map fun c => D.str (chr1 c)) = some (cs.map chr1)
  | [] => rfl
  | c :: cs => by
    rw [List.map_cons, List.map_cons]
    show (match strsOf (cs.map fun c => D.str (chr1 c)) with
      | some bs => some (chr1 c :: bs)
      | none => none) = _
    rw [strsOf_chars cs]
theorem chars_of {Q : Nat → Prop} : ∀ {ys : List D}, (∀ y ∈ ys, ∃ c, Q c ∧ y = .str (chr1 c)) → ∃ cs : List Nat, ys = cs.map (fun c => D.str (chr1 c)) ∧ ∀ c ∈ cs, Q c
  | [], _ => ⟨[], rfl, by simp⟩
  | y :: ys, h => by
    obtain ⟨c, hc, rfl⟩ := h y (List.mem_cons_self ..)
    obtain ⟨cs, rfl, hcs⟩ := chars_of fun z hz => h z (List.mem_cons_of_mem _ hz)
    refine ⟨c :: cs, rfl, fun d hd => ?_⟩
    rcases List.mem_cons.mp hd with e | e
    · rw [e]; exact hc
    · exact hcs d e
theorem joinOk_chars (cs : List Nat) (h : cs.length ≤ 100) : JoinOk (Str.ofString "") (cs.map chr1) = true := by
  unfold JoinOk
  have : ∀ (l : List Nat) (n : Nat), (l.map chr1).foldl (fun a (x : Str) => a + x.length + (Str.ofString "").length) n = n + l.length := by
    intro l
    induction l with
    | nil => intro n; rfl
    | cons c l ih =>
      intro n
      rw [List.map_cons, List.foldl_cons, ih]
      show n + 1 + 0 + l.length = n + (l.length + 1)
      omega
  have e : ((cs.map chr1).toArray.foldl (· + ·.length + (Str.ofString "").length) 0) = cs.length := by
    rw [List.foldl_toArray]
    rw [this cs 0]; omega
  rw [e]
  unfold Builtin.Str.tooLong
  have : sizeLine = 16777216 := by decide
  simp
  first | omega | (have := h; decide)
theorem meth_join (cs : List Nat) (h : cs.length ≤ 100) : methS mJoin (ret (.str (Str.ofString ""))) (ret [.list (cs.map fun c => D.str (chr1 c))]) = ret (.str ⟨cs.toArray⟩) := by
  have e : joinM (Str.ofString "") (cs.map fun c => D.str (chr1 c)) = ret (.str ⟨cs.toArray⟩) := by
    unfold joinM
    rw [strsOf_chars]
    show (if JoinOk (Str.ofString "") (cs.map chr1) = true then ret (D.str (Txt.join (Str.ofString "") (cs.map chr1))) else stk) = _
    rw [if_pos (joinOk_chars cs h)]
    show ret (D.str (Builtin.Str.glued (Str.ofString "") (cs.map chr1))) = _
    rw [StrLaws.glued_eq_join, join_chars]
  funext S
  show joinM (Str.ofString "") (cs.map fun c => D.str (chr1 c)) S = _
  rw [e]
theorem meth_index {c : Nat} (h : LC c) : ∃ k : Nat, methS mIndexS (ret (.str abc)) (ret [.str (chr1 c)]) = ret (.int k) := by
  obtain ⟨k, e⟩ := index_of h
  refine ⟨k, ?_⟩
  funext S
  show optM ((strIndex abc (chr1 c)).map fun k => D.int k) S = _
  have e' : strIndex abc (chr1 c) = some k := e
  rw [e']; rfl
theorem neg_int (i : Int) : unop .USub (.int i) = ret (.int (-i)) := rfl
theorem range_len (n : Nat) : (rangeL 0 (n : Int)).length = n := by simp [rangeL]
theorem range_mem {n : Nat} {d : D} (h : d ∈ rangeL 0 (n : Int)) : ∃ j : Nat, j < n ∧ d = .int j := by
  unfold rangeL at h
  obtain ⟨j, hj, e⟩ := List.mem_map.mp h
  refine ⟨j, by simpa using List.mem_range.mp hj, ?_⟩
  rw [← e]; simp
theorem items_range {n : Nat} (h : n ≤ 1000) : itemsOf (.range 0 (n : Int)) = some (rangeL 0 (n : Int)) := by
  show (if (decide (-1000000000 ≤ (0 : Int)) && decide ((0 : Int) ≤ 1000000000) && decide (-1000000000 ≤ (n : Int)) && decide ((n : Int) - 0 ≤ 16777216)) = true then some (rangeL 0 (n : Int)) else none) = _
  rw [if_pos]
  simp only [Bool.and_eq_true, decide_eq_true_eq]
  omega
theorem range1 (n : Int) : bf0 .range [.int n] = ret (.range 0 n) := rfl
theorem len_lst (ds : List D) : bf0 .len [.list ds] = ret (.int ds.length) := rfl
theorem gt_ints (i j : Int) : cmpM .Gt (.int i) (.int j) = ret (decide (j < i)) := rfl
theorem add_lsts (x y : List D) (h : x.length + y.length ≤ 1000) : bin0 .Add (.list x) (.list y) = ret (.list (x ++ y)) := by
  funext S
  show (if x.length + y.length ≤ sizeLine then mkList cfg0 pos0 (x ++ y) S else .stuck) = _
  rw [if_pos (Nat.le_trans h (by decide))]; rfl
theorem cut_mem {α : Type} {lo hi : Option Int} {l : List α} {x : α} (h : x ∈ cut lo hi l) : x ∈ l := by
  unfold cut at h
  exact List.mem_of_mem_drop (List.mem_of_mem_take h)
theorem cut_len {α : Type} (lo hi : Option Int) (l : List α) : (cut lo hi l).length ≤ l.length := by
  unfold cut
  simp
  omega
theorem lst1 (d : D) : lst0 (ret [d]) = ret (.list [d]) := lst0_ret _ (by simp)
theorem app_len (x y : Str) : (x ++ y).length = x.length + y.length := by
  show (x.cps ++ y.cps).size = _
  simp; rfl

theorem tup0 : tupM (ret []) = ret (.tuple []) := tupM_ret _ (by simp)
theorem tup1 (a : D) : tupM (ret [a]) = ret (.tuple [a]) := tupM_ret _ (by simp)
theorem tup2 (a b : D) : tupM (ret [a, b]) = ret (.tuple [a, b]) := tupM_ret _ (by simp)
theorem tup3 (a b c : D) : tupM (ret [a, b, c]) = ret (.tuple [a, b, c]) := tupM_ret _ (by simp)
theorem clip_nat {k d n : Nat} (h : k ≤ n) : clip (some (k : Int)) d n = k := by
  show (max 0 (min (if (k : Int) < 0 then (k : Int) + n else k) n)).toNat = k
  rw [if_neg (Int.not_lt.mpr (Int.natCast_nonneg k)), Int.min_eq_left (Int.ofNat_le.mpr h), Int.max_eq_right (Int.natCast_nonneg k), Int.toNat_natCast]
theorem cut_to {α : Type} {k : Nat} {l : List α} (h : k ≤ l.length) : cut none (some (k : Int)) l = l.take k := by
  unfold cut
  rw [clip_nat h]; rfl
theorem cut_from {α : Type} {k : Nat} {l : List α} (h : k ≤ l.length) : cut (some (k : Int)) none l = l.drop k := by
  unfold cut
  rw [clip_nat h]
  exact List.take_of_length_le (by rw [List.length_drop]; exact Nat.le_refl _)
theorem cut_le {α : Type} (lo : Option Int) (b : Nat) (l : List α) : (cut lo (some (b : Int)) l).length ≤ b := by
  unfold cut
  rw [List.length_take]
  refine Nat.le_trans (Nat.min_le_left _ _) (Nat.le_trans (Nat.sub_le _ _) ?_)
  show (max 0 (min (if (b : Int) < 0 then (b : Int) + l.length else b) l.length)).toNat ≤ b
  rw [if_neg (Int.not_lt.mpr (Int.natCast_nonneg b))]
  exact Int.toNat_le.mpr (Int.max_le.mpr ⟨Int.natCast_nonneg b, Int.min_le_left ..⟩)
end Mine
end

section
set_option linter.unusedSimpArgs false
set_option maxRecDepth 100000
namespace Mine
open PySem

section
variable {α β : Type} {S S1 : Store}
theorem bnd_st {m : EM α} {f : α → EM β} {a : α} (h : m S = .ok a S1) : bnd m f S = f a S1 := by unfold bnd; rw [h]
theorem seq_st {m : EM Fl} {k : Sg → EM Fl} {σ : Sg} (h : m S = .ok (.next σ) S1) : seqM m k S = k σ S1 := by unfold seqM; rw [bnd_st h]
theorem fin_st {m : EM Fl} {d : D} (h : m S = .ok (.ret d) S1) : finM m S = .ok d S1 := by unfold finM; rw [bnd_st h]; rfl
theorem go_st {m : EM Fl} {k : Sg → EM Fl} {σ : Sg} (h : m S = .ok (.next σ) S1) : finM (seqM m k) S = finM (k σ) S1 := by
  have e := seq_st (k := k) h
  generalize seqM m k = a at e
  unfold finM bnd
  rw [e]
theorem calm_st {m : EM α} {a : α} (h : m S = .ok a S1) : calm m S = .ok a S1 := by unfold calm; rw [h]
theorem ifM_st {m : EM Bool} {b : Bool} {x y : EM Fl} (h : m S = .ok b S1) : ifM m x y S = (if b then x else y) S1 := by unfold ifM; rw [bnd_st h]
theorem chainS_ret (op : CmpOp) (a b : D) (k : D → EM Bool) : chainS op a (ret b) k = bnd (cmpM op a b) fun c => if c then k b else ret false := rfl
theorem chain1_ret (op : CmpOp) (a b : D) : chain1 op a (ret b) = cmpM op a b := rfl
theorem le_ints' (i j : Int) : cmpM .LtE (.int i) (.int j) = ret (decide (i ≤ j)) := rfl
theorem len_tup' (ds : List D) : bf0 .len [.tuple ds] = ret (.int ds.length) := rfl
theorem range2 (i j : Int) : bf0 .range [.int i, .int j] = ret (.range i j) := rfl
/-- a for, the store threaded -/
theorem forL_st {body : D → Sg → EM Fl} (I : Nat → Sg → Store → Prop) : ∀ (ds : List D) (n : Nat), (∀ k d, ds[k]? = some d → ∀ σ S, I (n + k) σ S → ∃ σ' S', I (n + k + 1) σ' S' ∧ body d σ S = .ok (.next σ') S') →
    ∀ σ S, I n σ S → ∃ σ' S', I (n + ds.length) σ' S' ∧ forL body ds σ S = .ok (.next σ') S'
  | [], n, _, σ, S, h0 => ⟨σ, S, h0, rfl⟩
  | d :: ds, n, h, σ, S, h0 => by
    obtain ⟨σ1, S1, h1, e1⟩ := h 0 d rfl σ S h0
    obtain ⟨σ2, S2, h2, e2⟩ := forL_st I ds (n + 1) (fun k e hk τ T hI => by
      have := h (k + 1) e (by simpa using hk) τ T (by have : n + (k + 1) = n + 1 + k := by omega
                                                      rw [this]; exact hI)
      obtain ⟨σ', S', q1, q2⟩ := this
      exact ⟨σ', S', by have : n + 1 + k + 1 = n + (k + 1) + 1 := by omega
                        rw [this]; exact q1, q2⟩) σ1 S1 h1
    refine ⟨σ2, S2, by rw [List.length_cons]; have : n + (ds.length + 1) = n + 1 + ds.length := by omega
                       rw [this]; exact h2, ?_⟩
    have q : forL body (d :: ds) σ = bnd (calm (body d σ)) fun f => match f with
      | .next σ' => forL body ds σ'
      | .ret v => ret (.ret v) := rfl
    rw [q, bnd_st (calm_st e1)]
    exact e2
theorem item_loc {n k : Nat} {ds : List D} {d : D} (h : S[n]? = some (.list ds)) (hk : ds[k]? = some d) : itemM (.loc n) (.int k) S = .ok d S := by
  have e : listOf S (.loc n) = some ds := by unfold listOf; dsimp only; rw [h]
  show (match listOf S (.loc n) with
    | some ds => itemL ds k S
    | none => .stuck) = _
  rw [e]
  have := congrFun (itemL_at hk) S
  exact this
theorem len_loc {n : Nat} {ds : List D} (h : S[n]? = some (.list ds)) : bf0 .len [.loc n] S = .ok (.int ds.length) S := by
  have e : listOf S (.loc n) = some ds := by unfold listOf; dsimp only; rw [h]
  show (match listOf S (.loc n) with
    | some ds => Out.ok (D.int ds.length) S
    | none => .stuck) = _
  rw [e]
theorem app_loc {n : Nat} {ds : List D} {d : D} (h : S[n]? = some (.list ds)) (hz : ds.length < 1000) : methS mAppend (ret (.loc n)) (ret [d]) S = .ok .none (S.set n (.list (ds ++ [d]))) := by
  show bnd (methK mAppend (.loc n)) (fun _ => bnd (ret [d]) fun ds => mAppend.run (.loc n) ds) S = _
  have hok : mAppend.ok S (.loc n) = true := by
    show isLocL S (.loc n) = true
    unfold isLocL; dsimp only; rw [h]
  rw [bnd_st (a := ()) (S1 := S) (by unfold methK; rw [if_pos hok])]
  show appendM (.loc n) d S = _
  unfold appendM
  dsimp only
  rw [h]
  dsimp only
  rw [if_pos (Nat.lt_of_lt_of_le hz (by decide))]; rfl
theorem last_st (S : Store) (x : SObj) : (S ++ [x])[S.length]? = some x := by simp
theorem set_st (S : Store) (x y : SObj) : (S ++ [x]).set S.length y = S ++ [y] := by
  rw [List.set_append_right _ _ (Nat.le_refl _)]; simp
/-- ints -/
theorem pys_ints (ys : List Int) : D.pys (ys.map D.int) = some (ys.map PyData.int) := by
  induction ys with
  | nil => rfl
  | cons y ys ih => rw [List.map_cons, List.map_cons]; unfold D.pys; rw [ih]; rfl
theorem depth_ints (ys : List Int) : PyData.depthAll (ys.map PyData.int) = 0 := by
  induction ys with
  | nil => rfl
  | cons y ys ih => rw [List.map_cons]; show max (PyData.depth (.int y)) _ = 0; rw [ih]; rfl
theorem eqv_ints : ∀ ys : List Int, PyData.eqvAll (ys.map PyData.int) (ys.map PyData.int) = true
  | [] => rfl
  | y :: ys => by
    rw [List.map_cons]
    show (PyData.eqv (.int y) (.int y) && PyData.eqvAll (ys.map PyData.int) (ys.map PyData.int)) = true
    rw [eqv_ints ys, Bool.and_true]
    show (y == y) = true
    simp
end
end Mine
end

section
set_option maxRecDepth 100000
namespace Mine
open PySem

/-- the words that join two statements -/
inductive W3 where
  | a | o | t
  deriving DecidableEq
inductive Sx where
  | nm (x : Str)
  | fls
  | bin (w : W3) (p q : Sx)
  deriving DecidableEq
/-- the rules -/
inductive Ru where
  | given | both | left | right | one | other | cases | suppose | onward | any
  deriving DecidableEq
noncomputable def Ru.s : Ru → Str
  | .given => Str.ofString "given"
  | .both => Str.ofString "both"
  | .left => Str.ofString "left"
  | .right => Str.ofString "right"
  | .one => Str.ofString "one"
  | .other => Str.ofString "other"
  | .cases => Str.ofString "cases"
  | .suppose => Str.ofString "suppose"
  | .onward => Str.ofString "onward"
  | .any => Str.ofString "any"
noncomputable def Ru.cnt : Ru → Nat
  | .given => 0
  | .both => 2
  | .cases => 3
  | .onward => 2
  | _ => 1
structure Rw where
  g : List Sx
  s : Sx
  r : Str
  u : List Int
noncomputable def rw0 : Rw := ⟨[], .fls, Str.ofString "", []⟩
noncomputable def amg (some given more : List Sx) : Bool := some.all fun x => decide (x ∈ given) || decide (x ∈ more)
noncomputable def frm (r : Rw) (given : List Sx) (st : Sx) (more : List Sx) : Bool := decide (r.s = st) && amg r.g given more
noncomputable def isW (w : W3) : Sx → Bool
  | .bin v _ _ => decide (v = w)
  | _ => false
noncomputable def pt1 : Sx → Sx
  | .bin _ p _ => p
  | x => x
noncomputable def pt2 : Sx → Sx
  | .bin _ _ q => q
  | x => x
noncomputable def ruled (g : List Sx) (s : Sx) : Ru → List Rw → Bool
  | .given, [] => decide (s ∈ g)
  | .both, [a, b] => isW .a s && (frm a g (pt1 s) [] && frm b g (pt2 s) [])
  | .left, [a] => isW .a a.s && (decide (pt1 a.s = s) && amg a.g g [])
  | .right, [a] => isW .a a.s && (decide (pt2 a.s = s) && amg a.g g [])
  | .one, [a] => isW .o s && frm a g (pt1 s) []
  | .other, [a] => isW .o s && frm a g (pt2 s) []
  | .cases, [a, b, c] => isW .o a.s && (amg a.g g [] && (frm b g s [pt1 a.s] && frm c g s [pt2 a.s]))
  | .suppose, [a] => isW .t s && frm a g (pt2 s) [pt1 s]
  | .onward, [a, b] => isW .t a.s && (decide (pt2 a.s = s) && (amg a.g g [] && frm b g (pt1 a.s) []))
  | .any, [a] => frm a g .fls []
  | _, _ => false
noncomputable def ruAll : List Ru := [.given, .both, .left, .right, .one, .other, .cases, .suppose, .onward, .any]
noncomputable def ruOf (x : Str) : Option Ru := ruAll.find? fun c => decide (c.s = x)
theorem ruOf_s (c : Ru) : ruOf c.s = some c := by cases c <;> rfl
noncomputable def inRng (n : Nat) (i : Int) : Bool := decide (0 ≤ i) && decide (i < n)
noncomputable def upsOf (rows : List Rw) (u : List Int) : List Rw := u.map fun i => (rows[i.toNat]?).getD rw0
noncomputable def folR (rows : List Rw) (n : Nat) (row : Rw) : Bool := match ruOf row.r with
  | none => false
  | some c => decide (row.u.length = c.cnt) && (row.u.all (inRng n) && ruled row.g row.s c (upsOf rows row.u))
noncomputable def fol (rows : List Rw) (n : Nat) : Bool := folR rows n ((rows[n]?).getD rw0)

end Mine
end

section
set_option linter.unusedSimpArgs false
set_option maxRecDepth 100000
namespace Mine
open PySem

noncomputable def W3.s : W3 → Str
  | .a => Str.ofString "and"
  | .o => Str.ofString "or"
  | .t => Str.ofString "then"
noncomputable def enc : Sx → D
  | .nm x => .tuple [.str (Str.ofString "name"), .str x]
  | .fls => .tuple [.str (Str.ofString "false")]
  | .bin w p q => .tuple [.str w.s, enc p, enc q]
noncomputable def encP : Sx → PyData
  | .nm x => .tuple [.str (Str.ofString "name"), .str x]
  | .fls => .tuple [.str (Str.ofString "false")]
  | .bin w p q => .tuple [.str w.s, encP p, encP q]
noncomputable def Sx.dep : Sx → Nat
  | .bin _ p q => max p.dep q.dep + 1
  | _ => 1
theorem enc_py : ∀ a : Sx, (enc a).py = some (encP a)
  | .nm _ => rfl
  | .fls => rfl
  | .bin w p q => by
    show (D.pys [.str w.s, enc p, enc q]).map PyData.tuple = _
    simp only [D.pys, enc_py p, enc_py q]
    rfl
theorem enc_dep : ∀ a : Sx, (encP a).depth = a.dep
  | .nm _ => rfl
  | .fls => rfl
  | .bin w p q => by
    show max (PyData.depth (.str w.s)) (max (encP p).depth (max (encP q).depth 0)) + 1 = max p.dep q.dep + 1
    rw [enc_dep p, enc_dep q]
    show max 0 (max p.dep (max q.dep 0)) + 1 = _
    rw [Nat.max_zero, Nat.zero_max]
theorem eqv_two (a b c d : PyData) : PyData.eqv (.tuple [a, b]) (.tuple [c, d]) = (PyData.eqv a c && (PyData.eqv b d && true)) := rfl
theorem eqv_three (a b e c d f : PyData) : PyData.eqv (.tuple [a, b, e]) (.tuple [c, d, f]) = (PyData.eqv a c && (PyData.eqv b d && (PyData.eqv e f && true))) := rfl
theorem eqv_str (x y : Str) : PyData.eqv (.str x) (.str y) = decide (x = y) := rfl
theorem w3_inj : ∀ a b : W3, (a.s = b.s) = (a = b) := by
  intro a b
  refine propext ⟨fun h => ?_, fun h => h ▸ rfl⟩
  cases a <;> cases b <;> first | rfl | exact absurd h (by decide +kernel)
theorem eqv_enc : ∀ a b : Sx, PyData.eqv (encP a) (encP b) = decide (a = b)
  | .nm x, .nm y => by
    show PyData.eqv (.tuple [.str (Str.ofString "name"), .str x]) (.tuple [.str (Str.ofString "name"), .str y]) = _
    rw [eqv_two, eqv_str, eqv_str]
    simp
  | .nm x, .fls => by
    have e : PyData.eqv (encP (.nm x)) (encP .fls) = false := rfl
    rw [e]; simp
  | .nm x, .bin w p q => by
    show (PyData.eqv (.str _) (.str _) && (PyData.eqv (.str x) (encP p) && false)) = _
    simp
  | .fls, .nm x => by
    have e : PyData.eqv (encP .fls) (encP (.nm x)) = false := rfl
    rw [e]; simp
  | .fls, .fls => by decide +kernel
  | .fls, .bin w p q => by
    show (PyData.eqv (.str _) (.str _) && false) = _
    simp
  | .bin w p q, .nm x => by
    show (PyData.eqv (.str _) (.str _) && (PyData.eqv (encP p) (.str x) && false)) = _
    simp
  | .bin w p q, .fls => by
    show (PyData.eqv (.str _) (.str _) && false) = _
    simp
  | .bin w p q, .bin v r t => by
    show PyData.eqv (.tuple [.str w.s, encP p, encP q]) (.tuple [.str v.s, encP r, encP t]) = _
    rw [eqv_three, eqv_str, eqv_enc p r, eqv_enc q t]
    simp only [w3_inj, Sx.bin.injEq, Bool.and_true, Bool.decide_and]
theorem eqM_py {a b : D} {p q : PyData} (h1 : a.py = some p) (h2 : b.py = some q) (hd : min p.depth q.depth ≤ 600) : eqM a b = ret (PyData.eqv p q) := by
  funext S
  unfold eqM
  rw [pyAt_pl h1, pyAt_pl h2]
  dsimp only
  rw [if_pos (by unfold lineOf; exact decide_eq_true hd)]
  rfl
theorem eq_enc (a b : Sx) (h : a.dep ≤ 500 ∨ b.dep ≤ 500) : eqM (enc a) (enc b) = ret (decide (a = b)) := by
  rw [eqM_py (enc_py a) (enc_py b) (by rw [enc_dep, enc_dep]; exact h.elim (fun h => Nat.le_trans (Nat.min_le_left _ _) (Nat.le_trans h (by decide))) fun h => Nat.le_trans (Nat.min_le_right _ _) (Nat.le_trans h (by decide))), eqv_enc]
theorem pys_enc (l : List Sx) : D.pys (l.map enc) = some (l.map encP) := by
  induction l with
  | nil => rfl
  | cons a l ih => rw [List.map_cons, List.map_cons]; unfold D.pys; rw [ih, enc_py]
theorem inL_enc (a : Sx) (l : List Sx) (h : a.dep ≤ 500) : inL (l.map enc) (enc a) = ret (decide (a ∈ l)) := by
  funext S
  unfold inL
  rw [pys_enc, pyAt_pl (enc_py a)]
  dsimp only
  unfold anyEq
  rw [if_pos (decide_eq_true (by rw [enc_dep]; exact Nat.le_trans (Nat.min_le_right _ _) (Nat.le_trans h (by decide)))), List.any_map]
  show Out.ok _ S = Out.ok _ S
  congr 1
  show (l.any fun p => PyData.eqv (encP p) (encP a)) = _
  simp only [eqv_enc]
  rw [List.any_eq]
  simp
theorem in_tup (a : Sx) (l : List Sx) (h : a.dep ≤ 500) : cmpM .In (enc a) (.tuple (l.map enc)) = ret (decide (a ∈ l)) := inL_enc a l h
theorem in_lst (a : Sx) (l : List Sx) (h : a.dep ≤ 500) : cmpM .In (enc a) (.list (l.map enc)) = ret (decide (a ∈ l)) := inL_enc a l h
theorem nin_tup (a : Sx) (l : List Sx) (h : a.dep ≤ 500) : cmpM .NotIn (enc a) (.tuple (l.map enc)) = ret (!decide (a ∈ l)) := by
  show bnd (inL (l.map enc) (enc a)) _ = _
  rw [inL_enc a l h]; rfl

/-- a row -/
noncomputable def encR (r : Rw) : D := .tuple [.tuple (r.g.map enc), enc r.s, .str r.r, .tuple (r.u.map .int)]
noncomputable def encRP (r : Rw) : PyData := .tuple [.tuple (r.g.map encP), encP r.s, .str r.r, .tuple (r.u.map .int)]
structure RwOk (r : Rw) : Prop where
  g : ∀ x ∈ r.g, x.dep ≤ 50
  s : r.s.dep ≤ 50
  u : r.u.length ≤ 50
theorem encR_py (r : Rw) : (encR r).py = some (encRP r) := by
  have e1 : (D.tuple (r.g.map enc)).py = some (.tuple (r.g.map encP)) := by show (D.pys _).map PyData.tuple = _; rw [pys_enc]; rfl
  have e2 : (D.tuple (r.u.map D.int)).py = some (.tuple (r.u.map .int)) := by show (D.pys _).map PyData.tuple = _; rw [pys_ints]; rfl
  show (D.pys [.tuple (r.g.map enc), enc r.s, .str r.r, .tuple (r.u.map .int)]).map PyData.tuple = _
  simp only [D.pys, e1, e2, enc_py]
  rfl
theorem depthAll_le {l : List PyData} {n : Nat} (h : ∀ x ∈ l, x.depth ≤ n) : PyData.depthAll l ≤ n := by
  induction l with
  | nil => exact Nat.zero_le _
  | cons a l ih =>
    show max a.depth (PyData.depthAll l) ≤ n
    exact Nat.max_le.mpr ⟨h a (List.mem_cons_self ..), ih fun x hx => h x (List.mem_cons_of_mem _ hx)⟩
theorem encRP_dep {r : Rw} (h : RwOk r) : (encRP r).depth ≤ 60 := by
  show max (PyData.depthAll (r.g.map encP) + 1) (max (encP r.s).depth (max 0 (max (PyData.depthAll (r.u.map .int) + 1) 0))) + 1 ≤ 60
  have h1 : PyData.depthAll (r.g.map encP) ≤ 50 := depthAll_le fun x hx => by
    obtain ⟨y, hy, rfl⟩ := List.mem_map.mp hx
    rw [enc_dep]; exact h.g y hy
  have h2 : (encP r.s).depth ≤ 50 := by rw [enc_dep]; exact h.s
  rw [depth_ints]
  exact Nat.succ_le_succ (Nat.max_le.mpr ⟨Nat.le_trans (Nat.succ_le_succ h1) (by decide), Nat.max_le.mpr ⟨Nat.le_trans h2 (by decide), by decide⟩⟩)
theorem pys_rows (l : List Rw) : D.pys (l.map encR) = some (l.map encRP) := by
  induction l with
  | nil => rfl
  | cons a l ih => rw [List.map_cons, List.map_cons]; unfold D.pys; rw [ih, encR_py]
theorem eqvAll_self {l : List PyData} (h : ∀ x ∈ l, PyData.eqv x x = true) : PyData.eqvAll l l = true := by
  induction l with
  | nil => rfl
  | cons a l ih =>
    show (PyData.eqv a a && PyData.eqvAll l l) = true
    rw [h a (List.mem_cons_self ..), ih fun x hx => h x (List.mem_cons_of_mem _ hx)]; rfl
theorem eqv_row (r : Rw) : PyData.eqv (encRP r) (encRP r) = true := by
  refine eqvAll_self fun x hx => ?_
  simp only [List.mem_cons, List.not_mem_nil, or_false] at hx
  rcases hx with rfl | rfl | rfl | rfl
  · refine eqvAll_self fun y hy => ?_
    obtain ⟨z, _, rfl⟩ := List.mem_map.mp hy
    rw [eqv_enc]; simp
  · rw [eqv_enc]; simp
  · rw [eqv_str]; simp
  · exact eqv_ints _
noncomputable def c_COUNTS : D := .dict [(Str.ofString "given", .int 0), (Str.ofString "both", .int 2), (Str.ofString "left", .int 1), (Str.ofString "right", .int 1), (Str.ofString "one", .int 1), (Str.ofString "other", .int 1), (Str.ofString "cases", .int 3), (Str.ofString "suppose", .int 1), (Str.ofString "onward", .int 2), (Str.ofString "any", .int 1)]
end Mine
end

section
set_option maxRecDepth 100000
namespace Mine
open PySem

noncomputable def b__law_cell_at_0 (cf : Str → List D → EM D) (σ : Sg) : EM Fl :=
 seqM (bnd (ret (.int (0))) fun d => ret (.ret d)) (nxt)
noncomputable def b__law_cell_at_1 (cf : Str → List D → EM D) (σ : Sg) : EM Fl :=
 seqM (bnd (subS (lk σ 0) (lk σ 1)) fun d => ret (.ret d)) (nxt)
noncomputable def b__law_cell_at_2 (cf : Str → List D → EM D) (σ : Sg) : EM Fl :=
 seqM (ifM (cmpS .Lt (lk σ 1) (bnd (consM (lk σ 0) (ret [])) fun ds => bf0 .len ds)) (b__law_cell_at_1 cf σ) (nxt σ)) (b__law_cell_at_0 cf)
noncomputable def s__law_cell_at (cf : Str → List D → EM D) (a0 a1 : D) : EM D :=
 finM (b__law_cell_at_2 cf [some a0, some a1, none])
noncomputable def b__law_name_by_0 (ix : MImpl) (cf : Str → List D → EM D) (σ : Sg) : EM Fl :=
 seqM (bnd (binS .Add (binS .Add (sliS (lk σ 4) (ret .none) (lk σ 5)) (lk σ 6)) (sliS (lk σ 4) (binS .Add (lk σ 5) (ret (.int (1)))) (ret .none))) fun d => ret (.ret d)) (nxt)
noncomputable def b__law_name_by_1 (ix : MImpl) (cf : Str → List D → EM D) (σ : Sg) : EM Fl :=
 seqM (bnd (binS .Add (lk σ 4) (lk σ 6)) fun d => ret (.ret d)) (nxt)
noncomputable def b__law_name_by_2 (ix : MImpl) (cf : Str → List D → EM D) (σ : Sg) : EM Fl :=
 seqM (ifM (andM (cmpS .Eq (lk σ 1) (ret (.int (2)))) (andM (cmpS .Eq (binS .Mod (binS .FloorDiv (lk σ 0) (ret (.int (13312)))) (ret (.int (2)))) (ret (.int (1)))) (andM (cmpS .Lt (lk σ 3) (ret (.int (8)))) (ret true)))) (b__law_name_by_1 ix cf σ) (nxt σ)) (b__law_name_by_0 ix cf)
noncomputable def b__law_name_by_3 (ix : MImpl) (cf : Str → List D → EM D) (σ : Sg) : EM Fl :=
 seqM (bnd (subS (lk σ 2) (binS .Mod (binS .Add (methS ix (lk σ 2) (consM (subS (lk σ 4) (lk σ 5)) (ret []))) (binS .Mult (lk σ 1) (binS .Add (ret (.int (1))) (binS .Mod (binS .FloorDiv (lk σ 0) (ret (.int (1664)))) (ret (.int (8))))))) (ret (.int (26))))) fun d => ret (.next (put σ 6 d))) (b__law_name_by_2 ix cf)
noncomputable def b__law_name_by_4 (ix : MImpl) (cf : Str → List D → EM D) (σ : Sg) : EM Fl :=
 seqM (bnd (binS .Mod (binS .FloorDiv (lk σ 0) (ret (.int (208)))) (lk σ 3)) fun d => ret (.next (put σ 5 d))) (b__law_name_by_3 ix cf)
noncomputable def t__law_name_by_5 (ix : MImpl) (cf : Str → List D → EM D) (σ : Sg) (d : D) : EM (Option D) :=
 (fun σc => turnS (ret true) (subS (lk σc 2) (binS .Mod (binS .Add (binS .Add (binS .FloorDiv (lk σc 3) (ret (.int (8)))) (binS .Mult (ret (.int (5))) (lk σc 1))) (binS .Mult (lk σc 1) (lk σc 1))) (ret (.int (26)))))) (put [none, none, (σ[2]?).join, (σ[0]?).join] 1 d)
noncomputable def b__law_name_by_6 (ix : MImpl) (cf : Str → List D → EM D) (σ : Sg) : EM Fl :=
 seqM (bnd (methS mJoin (ret (.str (Str.ofString ""))) (consM (comp0 (bnd (consM (lk σ 3) (ret [])) fun ds => bf0 .range ds) (t__law_name_by_5 ix cf σ)) (ret []))) fun d => ret (.next (put σ 4 d))) (b__law_name_by_4 ix cf)
noncomputable def b__law_name_by_7 (ix : MImpl) (cf : Str → List D → EM D) (σ : Sg) : EM Fl :=
 seqM (bnd (binS .Add (ret (.int (1))) (binS .Mod (lk σ 0) (ret (.int (8))))) fun d => ret (.next (put σ 3 d))) (b__law_name_by_6 ix cf)
noncomputable def b__law_name_by_8 (ix : MImpl) (cf : Str → List D → EM D) (σ : Sg) : EM Fl :=
 seqM (bnd (ret (.str (Str.ofString "abcdefghijklmnopqrstuvwxyz"))) fun d => ret (.next (put σ 2 d))) (b__law_name_by_7 ix cf)
noncomputable def s__law_name_by (ix : MImpl) (cf : Str → List D → EM D) (a0 a1 : D) : EM D :=
 finM (b__law_name_by_8 ix cf [some a0, some a1, none, none, none, none, none, none])
end Mine
end

section
set_option linter.unusedSimpArgs false
set_option maxRecDepth 100000
set_option maxHeartbeats 1000000
namespace Mine
open PySem

theorem cell_at_ok (cf : Str → List D → EM D) (xs : List Int) (k : Nat) : ∃ i : Int, s__law_cell_at cf (.list (xs.map D.int)) (.int k) = ret (.int i) := by
  unfold s__law_cell_at b__law_cell_at_2
  simp only [lk0, lkS, consM_ret, bnd_ret, len_lst, cmpS_ret, lt_ints, callN_ret, calm_ret]
  by_cases h : k < xs.length
  · have e : decide ((k : Int) < ((xs.map D.int).length : Int)) = true := by simp; exact h
    have hg : (xs.map D.int)[k]? = some (.int xs[k]) := by rw [List.getElem?_map, List.getElem?_eq_getElem h]; rfl
    unfold b__law_cell_at_1
    rw [e, ifM_true, lk0, lkS, lk0, subS_ret, itemL_at hg]
    exact ⟨xs[k], rfl⟩
  · have e : decide ((k : Int) < ((xs.map D.int).length : Int)) = false := by simp; omega
    rw [e]
    exact ⟨0, rfl⟩
end Mine
end

section
set_option maxRecDepth 100000
namespace Mine
open PySem

noncomputable def b_are_among_0 (cf : Str → List D → EM D) (σ : Sg) : EM Fl :=
 seqM (bnd (ret (.bool true)) fun d => ret (.ret d)) (nxt)
noncomputable def b_are_among_1 (cf : Str → List D → EM D) (σ : Sg) : EM Fl :=
 seqM (bnd (ret (.bool false)) fun d => ret (.ret d)) (nxt)
noncomputable def b_are_among_2 (cf : Str → List D → EM D) (σ : Sg) : EM Fl :=
 seqM (ifM (andM (cmpS .NotIn (lk σ 3) (lk σ 1)) (andM (cmpS .NotIn (lk σ 3) (lk σ 2)) (ret true))) (b_are_among_1 cf σ) (nxt σ)) (nxt)
noncomputable def b_are_among_3 (cf : Str → List D → EM D) (σ : Sg) : EM Fl :=
 seqM (forM' (lk σ 0) (fun d σ => b_are_among_2 cf (put σ 3 d)) σ) (b_are_among_0 cf)
noncomputable def s_are_among (cf : Str → List D → EM D) (a0 a1 a2 : D) : EM D :=
 finM (b_are_among_3 cf [some a0, some a1, some a2, none])
noncomputable def b_is_from_0 (cf : Str → List D → EM D) (σ : Sg) : EM Fl :=
 seqM (bnd (andV (cmpB .Eq (subS (lk σ 0) (ret (.int (1)))) (lk σ 2)) (callN cf (Str.ofString "are_among") (consM (subS (lk σ 0) (ret (.int (0)))) (consM (lk σ 1) (consM (lk σ 3) (ret [])))))) fun d => ret (.ret d)) (nxt)
noncomputable def s_is_from (cf : Str → List D → EM D) (a0 a1 a2 a3 : D) : EM D :=
 finM (b_is_from_0 cf [some a0, some a1, some a2, some a3, none])
noncomputable def b_is_joined_0 (cf : Str → List D → EM D) (σ : Sg) : EM Fl :=
 seqM (bnd (andV (cmpB .Eq (subS (subS (lk σ 0) (ret (.int (1)))) (ret (.int (0)))) (lk σ 2)) (andV (cmpB .Eq (subS (subS (lk σ 0) (ret (.int (1)))) (lk σ 3)) (lk σ 4)) (callN cf (Str.ofString "are_among") (consM (subS (lk σ 0) (ret (.int (0)))) (consM (lk σ 1) (consM (tupM (ret [])) (ret []))))))) fun d => ret (.ret d)) (nxt)
noncomputable def s_is_joined (cf : Str → List D → EM D) (a0 a1 a2 a3 a4 : D) : EM D :=
 finM (b_is_joined_0 cf [some a0, some a1, some a2, some a3, some a4, none])
noncomputable def b_is_shared_0 (cf : Str → List D → EM D) (σ : Sg) : EM Fl :=
 seqM (bnd (bnd (consM (subS (lk σ 0) (ret (.int (2)))) (consM (lk σ 1) (consM (lk σ 2) (consM (tupM (consM (subS (subS (lk σ 3) (ret (.int (1)))) (ret (.int (2)))) (ret []))) (ret []))))) fun ds => cf (Str.ofString "is_from") ds) fun d => ret (.ret d)) (nxt)
noncomputable def b_is_shared_1 (cf : Str → List D → EM D) (σ : Sg) : EM Fl :=
 seqM (bnd (ret (.bool false)) fun d => ret (.ret d)) (nxt)
noncomputable def b_is_shared_2 (cf : Str → List D → EM D) (σ : Sg) : EM Fl :=
 seqM (ifM (notM (bnd (callN cf (Str.ofString "is_from") (consM (subS (lk σ 0) (ret (.int (1)))) (consM (lk σ 1) (consM (lk σ 2) (consM (tupM (consM (subS (subS (lk σ 3) (ret (.int (1)))) (ret (.int (1)))) (ret []))) (ret [])))))) truthM)) (b_is_shared_1 cf σ) (nxt σ)) (b_is_shared_0 cf)
noncomputable def b_is_shared_3 (cf : Str → List D → EM D) (σ : Sg) : EM Fl :=
 seqM (bnd (ret (.bool false)) fun d => ret (.ret d)) (nxt)
noncomputable def b_is_shared_4 (cf : Str → List D → EM D) (σ : Sg) : EM Fl :=
 seqM (ifM (orM (cmpS .NotEq (subS (subS (lk σ 3) (ret (.int (1)))) (ret (.int (0)))) (ret (.str (Str.ofString "or")))) (orM (notM (bnd (callN cf (Str.ofString "are_among") (consM (subS (lk σ 3) (ret (.int (0)))) (consM (lk σ 1) (consM (tupM (ret [])) (ret []))))) truthM)) (ret false))) (b_is_shared_3 cf σ) (nxt σ)) (b_is_shared_2 cf)
noncomputable def b_is_shared_5 (cf : Str → List D → EM D) (σ : Sg) : EM Fl :=
 seqM (bnd (subS (lk σ 0) (ret (.int (0)))) fun d => ret (.next (put σ 3 d))) (b_is_shared_4 cf)
noncomputable def s_is_shared (cf : Str → List D → EM D) (a0 a1 a2 : D) : EM D :=
 finM (b_is_shared_5 cf [some a0, some a1, some a2, none, none, none])
noncomputable def b_is_made_0 (cf : Str → List D → EM D) (σ : Sg) : EM Fl :=
 seqM (bnd (andV (cmpB .Eq (subS (lk σ 1) (ret (.int (0)))) (ret (.str (Str.ofString "or")))) (callN cf (Str.ofString "is_from") (consM (subS (lk σ 3) (ret (.int (0)))) (consM (lk σ 0) (consM (subS (lk σ 1) (lk σ 4)) (consM (tupM (ret [])) (ret []))))))) fun d => ret (.ret d)) (nxt)
noncomputable def b_is_made_1 (cf : Str → List D → EM D) (σ : Sg) : EM Fl :=
 seqM (bnd (subS (ret (.dict [((Str.ofString "one"), .int (1)), ((Str.ofString "other"), .int (2))])) (lk σ 2)) fun d => ret (.next (put σ 4 d))) (b_is_made_0 cf)
noncomputable def b_is_made_2 (cf : Str → List D → EM D) (σ : Sg) : EM Fl :=
 seqM (bnd (andV (cmpB .Eq (subS (lk σ 1) (ret (.int (0)))) (ret (.str (Str.ofString "then")))) (callN cf (Str.ofString "is_from") (consM (subS (lk σ 3) (ret (.int (0)))) (consM (lk σ 0) (consM (subS (lk σ 1) (ret (.int (2)))) (consM (tupM (consM (subS (lk σ 1) (ret (.int (1)))) (ret []))) (ret []))))))) fun d => ret (.ret d)) (nxt)
noncomputable def b_is_made_3 (cf : Str → List D → EM D) (σ : Sg) : EM Fl :=
 seqM (ifM (cmpS .Eq (lk σ 2) (ret (.str (Str.ofString "suppose")))) (b_is_made_2 cf σ) (nxt σ)) (b_is_made_1 cf)
noncomputable def b_is_made_4 (cf : Str → List D → EM D) (σ : Sg) : EM Fl :=
 seqM (bnd (andV (callN cf (Str.ofString "is_from") (consM (subS (lk σ 3) (ret (.int (0)))) (consM (lk σ 0) (consM (subS (lk σ 1) (ret (.int (1)))) (consM (tupM (ret [])) (ret [])))))) (callN cf (Str.ofString "is_from") (consM (subS (lk σ 3) (ret (.int (1)))) (consM (lk σ 0) (consM (subS (lk σ 1) (ret (.int (2)))) (consM (tupM (ret [])) (ret []))))))) fun d => ret (.ret d)) (nxt)
noncomputable def b_is_made_5 (cf : Str → List D → EM D) (σ : Sg) : EM Fl :=
 seqM (bnd (ret (.bool false)) fun d => ret (.ret d)) (nxt)
noncomputable def b_is_made_6 (cf : Str → List D → EM D) (σ : Sg) : EM Fl :=
 seqM (ifM (cmpS .NotEq (subS (lk σ 1) (ret (.int (0)))) (ret (.str (Str.ofString "and")))) (b_is_made_5 cf σ) (nxt σ)) (b_is_made_4 cf)
noncomputable def b_is_made_7 (cf : Str → List D → EM D) (σ : Sg) : EM Fl :=
 seqM (ifM (cmpS .Eq (lk σ 2) (ret (.str (Str.ofString "both")))) (b_is_made_6 cf σ) (nxt σ)) (b_is_made_3 cf)
noncomputable def s_is_made (cf : Str → List D → EM D) (a0 a1 a2 a3 : D) : EM D :=
 finM (b_is_made_7 cf [some a0, some a1, some a2, some a3, none, none])
noncomputable def b_is_ruled_0 (cf : Str → List D → EM D) (σ : Sg) : EM Fl :=
 seqM (bnd (bnd (consM (subS (lk σ 3) (ret (.int (0)))) (consM (lk σ 0) (consM (tupM (consM (ret (.str (Str.ofString "false"))) (ret []))) (consM (tupM (ret [])) (ret []))))) fun ds => cf (Str.ofString "is_from") ds) fun d => ret (.ret d)) (nxt)
noncomputable def b_is_ruled_1 (cf : Str → List D → EM D) (σ : Sg) : EM Fl :=
 seqM (bnd (andV (callN cf (Str.ofString "is_joined") (consM (subS (lk σ 3) (ret (.int (0)))) (consM (lk σ 0) (consM (ret (.str (Str.ofString "then"))) (consM (ret (.int (2))) (consM (lk σ 1) (ret []))))))) (callN cf (Str.ofString "is_from") (consM (subS (lk σ 3) (ret (.int (1)))) (consM (lk σ 0) (consM (subS (subS (subS (lk σ 3) (ret (.int (0)))) (ret (.int (1)))) (ret (.int (1)))) (consM (tupM (ret [])) (ret []))))))) fun d => ret (.ret d)) (nxt)
noncomputable def b_is_ruled_2 (cf : Str → List D → EM D) (σ : Sg) : EM Fl :=
 seqM (ifM (cmpS .Eq (lk σ 2) (ret (.str (Str.ofString "onward")))) (b_is_ruled_1 cf σ) (nxt σ)) (b_is_ruled_0 cf)
noncomputable def b_is_ruled_3 (cf : Str → List D → EM D) (σ : Sg) : EM Fl :=
 seqM (bnd (bnd (consM (lk σ 3) (consM (lk σ 0) (consM (lk σ 1) (ret [])))) fun ds => cf (Str.ofString "is_shared") ds) fun d => ret (.ret d)) (nxt)
noncomputable def b_is_ruled_4 (cf : Str → List D → EM D) (σ : Sg) : EM Fl :=
 seqM (ifM (cmpS .Eq (lk σ 2) (ret (.str (Str.ofString "cases")))) (b_is_ruled_3 cf σ) (nxt σ)) (b_is_ruled_2 cf)
noncomputable def b_is_ruled_5 (cf : Str → List D → EM D) (σ : Sg) : EM Fl :=
 seqM (bnd (bnd (consM (subS (lk σ 3) (ret (.int (0)))) (consM (lk σ 0) (consM (ret (.str (Str.ofString "and"))) (consM (ret (.int (2))) (consM (lk σ 1) (ret [])))))) fun ds => cf (Str.ofString "is_joined") ds) fun d => ret (.ret d)) (nxt)
noncomputable def b_is_ruled_6 (cf : Str → List D → EM D) (σ : Sg) : EM Fl :=
 seqM (ifM (cmpS .Eq (lk σ 2) (ret (.str (Str.ofString "right")))) (b_is_ruled_5 cf σ) (nxt σ)) (b_is_ruled_4 cf)
noncomputable def b_is_ruled_7 (cf : Str → List D → EM D) (σ : Sg) : EM Fl :=
 seqM (bnd (bnd (consM (subS (lk σ 3) (ret (.int (0)))) (consM (lk σ 0) (consM (ret (.str (Str.ofString "and"))) (consM (ret (.int (1))) (consM (lk σ 1) (ret [])))))) fun ds => cf (Str.ofString "is_joined") ds) fun d => ret (.ret d)) (nxt)
noncomputable def b_is_ruled_8 (cf : Str → List D → EM D) (σ : Sg) : EM Fl :=
 seqM (ifM (cmpS .Eq (lk σ 2) (ret (.str (Str.ofString "left")))) (b_is_ruled_7 cf σ) (nxt σ)) (b_is_ruled_6 cf)
noncomputable def b_is_ruled_9 (cf : Str → List D → EM D) (σ : Sg) : EM Fl :=
 seqM (bnd (bnd (consM (lk σ 0) (consM (lk σ 1) (consM (lk σ 2) (consM (lk σ 3) (ret []))))) fun ds => cf (Str.ofString "is_made") ds) fun d => ret (.ret d)) (nxt)
noncomputable def b_is_ruled_10 (cf : Str → List D → EM D) (σ : Sg) : EM Fl :=
 seqM (ifM (cmpS .In (lk σ 2) (tupM (consM (ret (.str (Str.ofString "both"))) (consM (ret (.str (Str.ofString "suppose"))) (consM (ret (.str (Str.ofString "one"))) (consM (ret (.str (Str.ofString "other"))) (ret []))))))) (b_is_ruled_9 cf σ) (nxt σ)) (b_is_ruled_8 cf)
noncomputable def b_is_ruled_11 (cf : Str → List D → EM D) (σ : Sg) : EM Fl :=
 seqM (bnd (cmpB .In (lk σ 1) (lk σ 0)) fun d => ret (.ret d)) (nxt)
noncomputable def b_is_ruled_12 (cf : Str → List D → EM D) (σ : Sg) : EM Fl :=
 seqM (ifM (cmpS .Eq (lk σ 2) (ret (.str (Str.ofString "given")))) (b_is_ruled_11 cf σ) (nxt σ)) (b_is_ruled_10 cf)
noncomputable def s_is_ruled (cf : Str → List D → EM D) (a0 a1 a2 a3 : D) : EM D :=
 finM (b_is_ruled_12 cf [some a0, some a1, some a2, some a3, none, none, none, none])
noncomputable def t_follows_0 (cf : Str → List D → EM D) (σ : Sg) (d : D) : EM (Option D) :=
 (fun σc => turnS (ret true) (subS (lk σc 2) (lk σc 1))) (put [none, none, (σ[0]?).join] 1 d)
noncomputable def b_follows_1 (cf : Str → List D → EM D) (σ : Sg) : EM Fl :=
 seqM (bnd (bnd (consM (lk σ 2) (consM (lk σ 3) (consM (lk σ 4) (consM (comp0 (lk σ 5) (t_follows_0 cf σ)) (ret []))))) fun ds => cf (Str.ofString "is_ruled") ds) fun d => ret (.ret d)) (nxt)
noncomputable def b_follows_2 (cf : Str → List D → EM D) (σ : Sg) : EM Fl :=
 seqM (bnd (ret (.bool false)) fun d => ret (.ret d)) (nxt)
noncomputable def b_follows_3 (cf : Str → List D → EM D) (σ : Sg) : EM Fl :=
 seqM (ifM (notM (bnd (ret (.int (0))) fun z0 => (chainS .LtE z0 (lk σ 6) fun z1 => (chain1 .Lt z1 (lk σ 1))))) (b_follows_2 cf σ) (nxt σ)) (nxt)
noncomputable def b_follows_4 (cf : Str → List D → EM D) (σ : Sg) : EM Fl :=
 seqM (forM' (lk σ 5) (fun d σ => b_follows_3 cf (put σ 6 d)) σ) (b_follows_1 cf)
noncomputable def b_follows_5 (cf : Str → List D → EM D) (σ : Sg) : EM Fl :=
 seqM (bnd (ret (.bool false)) fun d => ret (.ret d)) (nxt)
noncomputable def b_follows_6 (cf : Str → List D → EM D) (σ : Sg) : EM Fl :=
 seqM (ifM (orM (cmpS .NotIn (lk σ 4) (ret c_COUNTS)) (orM (cmpS .NotEq (bnd (consM (lk σ 5) (ret [])) fun ds => bf0 .len ds) (subS (ret c_COUNTS) (lk σ 4))) (ret false))) (b_follows_5 cf σ) (nxt σ)) (b_follows_4 cf)
noncomputable def b_follows_7 (cf : Str → List D → EM D) (σ : Sg) : EM Fl :=
 seqM (asgT [2, 3, 4, 5] σ (subS (lk σ 0) (lk σ 1))) (b_follows_6 cf)
noncomputable def s_follows (cf : Str → List D → EM D) (a0 a1 : D) : EM D :=
 finM (b_follows_7 cf [some a0, some a1, none, none, none, none, none, none, none, none])
noncomputable def t__law_from_0 (cf : Str → List D → EM D) (σ : Sg) (d : D) : EM (Option D) :=
 (fun σc => turnS (ret true) (orV (cmpB .In (lk σc 1) (lk σc 2)) (cmpB .In (lk σc 1) (lk σc 3)))) (put [none, none, (σ[1]?).join, (σ[3]?).join] 1 d)
noncomputable def b__law_from_1 (cf : Str → List D → EM D) (σ : Sg) : EM Fl :=
 seqM (bnd (andV (cmpB .Eq (subS (lk σ 0) (ret (.int (1)))) (lk σ 2)) (bnd (consM (comp0 (subS (lk σ 0) (ret (.int (0)))) (t__law_from_0 cf σ)) (ret [])) fun ds => bf0 .all ds)) fun d => ret (.ret d)) (nxt)
noncomputable def s__law_from (cf : Str → List D → EM D) (a0 a1 a2 a3 : D) : EM D :=
 finM (b__law_from_1 cf [some a0, some a1, some a2, some a3, none])
noncomputable def t__law_ups_right_0 (cf : Str → List D → EM D) (σ : Sg) (d : D) : EM (Option D) :=
 (fun σc => turnS (ret true) (callN cf (Str.ofString "_law_from") (consM (subS (lk σc 6) (lk σc 1)) (consM (lk σc 4) (consM (lk σc 5) (consM (lst0 (consM (subS (lk σc 3) (lk σc 1)) (ret []))) (ret []))))))) (put [none, none, none, (σ[5]?).join, (σ[2]?).join, (σ[3]?).join, (σ[1]?).join] 1 d)
noncomputable def b__law_ups_right_1 (cf : Str → List D → EM D) (σ : Sg) : EM Fl :=
 seqM (bnd (bnd (consM (comp0 (bnd (consM (ret (.int (1))) (consM (ret (.int (3))) (ret []))) fun ds => bf0 .range ds) (t__law_ups_right_0 cf σ)) (ret [])) fun ds => bf0 .all ds) fun d => ret (.ret d)) (nxt)
noncomputable def b__law_ups_right_2 (cf : Str → List D → EM D) (σ : Sg) : EM Fl :=
 seqM (bnd (ret (.bool false)) fun d => ret (.ret d)) (nxt)
noncomputable def b__law_ups_right_3 (cf : Str → List D → EM D) (σ : Sg) : EM Fl :=
 seqM (ifM (cmpS .NotEq (subS (lk σ 5) (ret (.int (0)))) (ret (.str (Str.ofString "or")))) (b__law_ups_right_2 cf σ) (nxt σ)) (b__law_ups_right_1 cf)
noncomputable def b__law_ups_right_4 (cf : Str → List D → EM D) (σ : Sg) : EM Fl :=
 seqM (bnd (bnd (consM (subS (lk σ 1) (ret (.int (1)))) (consM (lk σ 2) (consM (subS (lk σ 5) (ret (.int (1)))) (consM (tupM (ret [])) (ret []))))) fun ds => cf (Str.ofString "_law_from") ds) fun d => ret (.ret d)) (nxt)
noncomputable def b__law_ups_right_5 (cf : Str → List D → EM D) (σ : Sg) : EM Fl :=
 seqM (bnd (ret (.bool false)) fun d => ret (.ret d)) (nxt)
noncomputable def b__law_ups_right_6 (cf : Str → List D → EM D) (σ : Sg) : EM Fl :=
 seqM (ifM (orM (cmpS .NotEq (subS (lk σ 5) (ret (.int (0)))) (ret (.str (Str.ofString "then")))) (orM (cmpS .NotEq (lk σ 3) (subS (lk σ 5) (ret (.int (2))))) (ret false))) (b__law_ups_right_5 cf σ) (nxt σ)) (b__law_ups_right_4 cf)
noncomputable def b__law_ups_right_7 (cf : Str → List D → EM D) (σ : Sg) : EM Fl :=
 seqM (ifM (cmpS .Eq (lk σ 4) (ret (.str (Str.ofString "onward")))) (b__law_ups_right_6 cf σ) (nxt σ)) (b__law_ups_right_3 cf)
noncomputable def b__law_ups_right_8 (cf : Str → List D → EM D) (σ : Sg) : EM Fl :=
 seqM (bnd (andV (cmpB .Eq (subS (lk σ 5) (ret (.int (0)))) (ret (.str (Str.ofString "and")))) (cmpB .Eq (lk σ 3) (subS (lk σ 5) (binS .Add (ret (.int (1))) (bnd (consM (cmpB .Eq (lk σ 4) (ret (.str (Str.ofString "right")))) (ret [])) fun ds => bf0 .int ds))))) fun d => ret (.ret d)) (nxt)
noncomputable def b__law_ups_right_9 (cf : Str → List D → EM D) (σ : Sg) : EM Fl :=
 seqM (ifM (cmpS .In (lk σ 4) (lst0 (consM (ret (.str (Str.ofString "left"))) (consM (ret (.str (Str.ofString "right"))) (ret []))))) (b__law_ups_right_8 cf σ) (nxt σ)) (b__law_ups_right_7 cf)
noncomputable def b__law_ups_right_10 (cf : Str → List D → EM D) (σ : Sg) : EM Fl :=
 seqM (bnd (ret (.bool false)) fun d => ret (.ret d)) (nxt)
noncomputable def b__law_ups_right_11 (cf : Str → List D → EM D) (σ : Sg) : EM Fl :=
 seqM (ifM (notM (bnd (callN cf (Str.ofString "_law_from") (consM (subS (lk σ 1) (ret (.int (0)))) (consM (lk σ 2) (consM (lk σ 5) (consM (tupM (ret [])) (ret [])))))) truthM)) (b__law_ups_right_10 cf σ) (nxt σ)) (b__law_ups_right_9 cf)
noncomputable def b__law_ups_right_12 (cf : Str → List D → EM D) (σ : Sg) : EM Fl :=
 seqM (bnd (andV (cmpB .Eq (subS (lk σ 3) (ret (.int (0)))) (ret (.str (Str.ofString "then")))) (callN cf (Str.ofString "_law_from") (consM (subS (lk σ 1) (ret (.int (0)))) (consM (lk σ 2) (consM (subS (lk σ 3) (ret (.int (2)))) (consM (lst0 (consM (subS (lk σ 3) (ret (.int (1)))) (ret []))) (ret []))))))) fun d => ret (.ret d)) (nxt)
noncomputable def b__law_ups_right_13 (cf : Str → List D → EM D) (σ : Sg) : EM Fl :=
 seqM (ifM (cmpS .Eq (lk σ 4) (ret (.str (Str.ofString "suppose")))) (b__law_ups_right_12 cf σ) (nxt σ)) (b__law_ups_right_11 cf)
noncomputable def b__law_ups_right_14 (cf : Str → List D → EM D) (σ : Sg) : EM Fl :=
 seqM (bnd (andV (cmpB .Eq (subS (lk σ 3) (ret (.int (0)))) (ret (.str (Str.ofString "or")))) (callN cf (Str.ofString "_law_from") (consM (subS (lk σ 1) (ret (.int (0)))) (consM (lk σ 2) (consM (subS (lk σ 3) (lk σ 6)) (consM (tupM (ret [])) (ret []))))))) fun d => ret (.ret d)) (nxt)
noncomputable def b__law_ups_right_15 (cf : Str → List D → EM D) (σ : Sg) : EM Fl :=
 seqM (bnd (binS .Add (ret (.int (1))) (bnd (consM (cmpB .Eq (lk σ 4) (ret (.str (Str.ofString "other")))) (ret [])) fun ds => bf0 .int ds)) fun d => ret (.next (put σ 6 d))) (b__law_ups_right_14 cf)
noncomputable def b__law_ups_right_16 (cf : Str → List D → EM D) (σ : Sg) : EM Fl :=
 seqM (ifM (cmpS .In (lk σ 4) (lst0 (consM (ret (.str (Str.ofString "one"))) (consM (ret (.str (Str.ofString "other"))) (ret []))))) (b__law_ups_right_15 cf σ) (nxt σ)) (b__law_ups_right_13 cf)
noncomputable def t__law_ups_right_17 (cf : Str → List D → EM D) (σ : Sg) (d : D) : EM (Option D) :=
 (fun σc => turnS (ret true) (callN cf (Str.ofString "_law_from") (consM (subS (lk σc 5) (lk σc 1)) (consM (lk σc 3) (consM (subS (lk σc 4) (binS .Add (ret (.int (1))) (lk σc 1))) (consM (tupM (ret [])) (ret []))))))) (put [none, none, none, (σ[2]?).join, (σ[3]?).join, (σ[1]?).join] 1 d)
noncomputable def b__law_ups_right_18 (cf : Str → List D → EM D) (σ : Sg) : EM Fl :=
 seqM (bnd (bnd (consM (comp0 (bnd (consM (ret (.int (2))) (ret [])) fun ds => bf0 .range ds) (t__law_ups_right_17 cf σ)) (ret [])) fun ds => bf0 .all ds) fun d => ret (.ret d)) (nxt)
noncomputable def b__law_ups_right_19 (cf : Str → List D → EM D) (σ : Sg) : EM Fl :=
 seqM (bnd (ret (.bool false)) fun d => ret (.ret d)) (nxt)
noncomputable def b__law_ups_right_20 (cf : Str → List D → EM D) (σ : Sg) : EM Fl :=
 seqM (ifM (cmpS .NotEq (subS (lk σ 3) (ret (.int (0)))) (ret (.str (Str.ofString "and")))) (b__law_ups_right_19 cf σ) (nxt σ)) (b__law_ups_right_18 cf)
noncomputable def b__law_ups_right_21 (cf : Str → List D → EM D) (σ : Sg) : EM Fl :=
 seqM (ifM (cmpS .Eq (lk σ 4) (ret (.str (Str.ofString "both")))) (b__law_ups_right_20 cf σ) (nxt σ)) (b__law_ups_right_16 cf)
noncomputable def b__law_ups_right_22 (cf : Str → List D → EM D) (σ : Sg) : EM Fl :=
 seqM (bnd (bnd (consM (subS (lk σ 1) (ret (.int (0)))) (consM (lk σ 2) (consM (tupM (consM (ret (.str (Str.ofString "false"))) (ret []))) (consM (tupM (ret [])) (ret []))))) fun ds => cf (Str.ofString "_law_from") ds) fun d => ret (.ret d)) (nxt)
noncomputable def b__law_ups_right_23 (cf : Str → List D → EM D) (σ : Sg) : EM Fl :=
 seqM (ifM (cmpS .Eq (lk σ 4) (ret (.str (Str.ofString "any")))) (b__law_ups_right_22 cf σ) (nxt σ)) (b__law_ups_right_21 cf)
noncomputable def b__law_ups_right_24 (cf : Str → List D → EM D) (σ : Sg) : EM Fl :=
 seqM (bnd (subS (subS (lk σ 1) (ret (.int (0)))) (ret (.int (1)))) fun d => ret (.next (put σ 5 d))) (b__law_ups_right_23 cf)
noncomputable def b__law_ups_right_25 (cf : Str → List D → EM D) (σ : Sg) : EM Fl :=
 seqM (bnd (cmpB .In (lk σ 3) (lk σ 2)) fun d => ret (.ret d)) (nxt)
noncomputable def b__law_ups_right_26 (cf : Str → List D → EM D) (σ : Sg) : EM Fl :=
 seqM (ifM (cmpS .Eq (lk σ 4) (ret (.str (Str.ofString "given")))) (b__law_ups_right_25 cf σ) (nxt σ)) (b__law_ups_right_24 cf)
noncomputable def b__law_ups_right_27 (cf : Str → List D → EM D) (σ : Sg) : EM Fl :=
 seqM (asgT [2, 3, 4] σ (sliS (lk σ 0) (ret .none) (ret (.int (3))))) (b__law_ups_right_26 cf)
noncomputable def s__law_ups_right (cf : Str → List D → EM D) (a0 a1 : D) : EM D :=
 finM (b__law_ups_right_27 cf [some a0, some a1, none, none, none, none, none, none, none, none, none])
noncomputable def t__law_follows_0 (cf : Str → List D → EM D) (σ : Sg) (d : D) : EM (Option D) :=
 (fun σc => turnS (ret true) (subS (lk σc 2) (lk σc 1))) (put [none, none, (σ[0]?).join] 1 d)
noncomputable def b__law_follows_1 (cf : Str → List D → EM D) (σ : Sg) : EM Fl :=
 seqM (bnd (bnd (consM (lk σ 3) (consM (comp0 (subS (lk σ 3) (ret (.int (3)))) (t__law_follows_0 cf σ)) (ret []))) fun ds => cf (Str.ofString "_law_ups_right") ds) fun d => ret (.ret d)) (nxt)
noncomputable def t__law_follows_2 (cf : Str → List D → EM D) (σ : Sg) (d : D) : EM (Option D) :=
 (fun σc => turnS (ret true) (bnd (ret (.int (0))) fun z0 => bnd (chainS .LtE z0 (lk σc 1) fun z1 => (chain1 .Lt z1 (lk σc 2))) fun c => ret (.bool c))) (put [none, none, (σ[1]?).join] 1 d)
noncomputable def b__law_follows_3 (cf : Str → List D → EM D) (σ : Sg) : EM Fl :=
 seqM (bnd (ret (.bool false)) fun d => ret (.ret d)) (nxt)
noncomputable def b__law_follows_4 (cf : Str → List D → EM D) (σ : Sg) : EM Fl :=
 seqM (ifM (notM (bnd (bnd (consM (comp0 (subS (lk σ 3) (ret (.int (3)))) (t__law_follows_2 cf σ)) (ret [])) fun ds => bf0 .all ds) truthM)) (b__law_follows_3 cf σ) (nxt σ)) (b__law_follows_1 cf)
noncomputable def b__law_follows_5 (cf : Str → List D → EM D) (σ : Sg) : EM Fl :=
 seqM (bnd (ret (.bool false)) fun d => ret (.ret d)) (nxt)
noncomputable def b__law_follows_6 (cf : Str → List D → EM D) (σ : Sg) : EM Fl :=
 seqM (ifM (cmpS .NotEq (methS mGet (lk σ 2) (consM (subS (lk σ 3) (ret (.int (2)))) (consM (ret (.int (99))) (ret [])))) (bnd (consM (subS (lk σ 3) (ret (.int (3)))) (ret [])) fun ds => bf0 .len ds)) (b__law_follows_5 cf σ) (nxt σ)) (b__law_follows_4 cf)
noncomputable def b__law_follows_7 (cf : Str → List D → EM D) (σ : Sg) : EM Fl :=
 seqM (bnd (subS (lk σ 0) (lk σ 1)) fun d => ret (.next (put σ 3 d))) (b__law_follows_6 cf)
noncomputable def b__law_follows_8 (cf : Str → List D → EM D) (σ : Sg) : EM Fl :=
 seqM (bnd (methS mUpdate (lk σ 2) (consM (ret (.dict [((Str.ofString "cases"), .int (3)), ((Str.ofString "suppose"), .int (1)), ((Str.ofString "onward"), .int (2)), ((Str.ofString "any"), .int (1))])) (ret []))) fun _ => ret (.next σ)) (b__law_follows_7 cf)
noncomputable def b__law_follows_9 (cf : Str → List D → EM D) (σ : Sg) : EM Fl :=
 seqM (bnd (mkD true [((Str.ofString "given"), .int (0)), ((Str.ofString "both"), .int (2)), ((Str.ofString "left"), .int (1)), ((Str.ofString "right"), .int (1)), ((Str.ofString "one"), .int (1)), ((Str.ofString "other"), .int (1))]) fun d => ret (.next (put σ 2 d))) (b__law_follows_8 cf)
noncomputable def s__law_follows (cf : Str → List D → EM D) (a0 a1 : D) : EM D :=
 finM (b__law_follows_9 cf [some a0, some a1, none, none, none, none, none])
end Mine
end

section
set_option maxRecDepth 100000
set_option maxHeartbeats 4000000
namespace Mine
namespace L08
open PySem

-- REV
noncomputable def consts08 : List (Str × D) := [(Str.ofString "COUNTS", c_COUNTS)]
noncomputable def meths08 : List (Str × MImpl) := [(Str.ofString "join", mJoin), (Str.ofString "index", mIndexS), (Str.ofString "get", mGet), (Str.ofString "update", mUpdate), (Str.ofString "append", mAppend), (Str.ofString "upper", mUpper)]
noncomputable def bfs08 : List (Str × BImpl) := [(Str.ofString "min", bMin2), (Str.ofString "max", bMax)]
noncomputable def own08 (p : Pos) : Bool := p == ⟨51, 11, 51, 79⟩ || p == ⟨96, 18, 96, 86⟩ || p == ⟨138, 11, 138, 103⟩ || p == ⟨116, 15, 116, 74⟩ || p == ⟨118, 15, 118, 168⟩ || p == ⟨121, 15, 121, 161⟩ || p == ⟨124, 15, 124, 148⟩ || p == ⟨129, 20, 129, 120⟩ || p == ⟨131, 15, 131, 110⟩ || p == ⟨134, 15, 134, 137⟩ || p == ⟨137, 15, 137, 95⟩ || p == ⟨194, 15, 194, 17⟩
noncomputable def mul08 (p : Pos) : Bool := p == ⟨185, 21, 185, 73⟩ || p == ⟨185, 76, 185, 112⟩
noncomputable def frz08 (p : Pos) : Bool := p == ⟨205, 11, 205, 130⟩

noncomputable def fns08 : List (Str × Fn) := fnsOf PySem.Challenge.pw_uf010036_08.main.body
noncomputable def C08 : Cfg := { fns := fns08, consts := consts08, excs := [], meths := meths08, own := own08, bfs := bfs08, rev := true, mul := mul08, frz := frz08 }
noncomputable def fAt (x : Str) : Fn := match fns08.lookup x with
  | some f => f
  | none => ⟨[], [], default⟩
noncomputable def f_law : Fn := fAt (Str.ofString "law")
noncomputable def t_faults_0 (cf : Str → List D → EM D) (σ : Sg) (d : D) : EM (Option D) :=
 (fun σc => turnS (andM (notM (bnd (callN cf (Str.ofString "follows") (consM (lk σc 3) (consM (lk σc 1) (ret [])))) truthM)) (ret true)) (lk σc 1)) (put [none, none, none, (σ[0]?).join] 1 d)
noncomputable def b_faults_1 (cf : Str → List D → EM D) (σ : Sg) : EM Fl :=
 seqM (bnd (compO (bnd (consM (bnd (consM (lk σ 0) (ret [])) fun ds => bf0 .len ds) (ret [])) fun ds => bf0 .range ds) (t_faults_0 cf σ)) fun d => ret (.ret d)) (nxt)
noncomputable def s_faults (cf : Str → List D → EM D) (a0 : D) : EM D :=
 finM (b_faults_1 cf [some a0, none, none])
noncomputable def b__law_part_by_0 (cf : Str → List D → EM D) (σ : Sg) : EM Fl :=
 seqM (bnd (tupM (consM (subS (lst0 (consM (ret (.str (Str.ofString "and"))) (consM (ret (.str (Str.ofString "or"))) (consM (ret (.str (Str.ofString "then"))) (ret []))))) (binS .Mod (binS .FloorDiv (lk σ 1) (ret (.int (108)))) (ret (.int (3))))) (consM (lk σ 2) (consM (lk σ 3) (ret []))))) fun d => ret (.ret d)) (nxt)
noncomputable def b__law_part_by_1 (cf : Str → List D → EM D) (σ : Sg) : EM Fl :=
 seqM (bnd (subS (lst0 (consM (tupM (consM (ret (.str (Str.ofString "false"))) (ret []))) (consM (tupM (consM (ret (.str (Str.ofString "name"))) (consM (callN cf (Str.ofString "_law_name_by") (consM (lk σ 0) (consM (binS .Mod (binS .FloorDiv (lk σ 1) (ret (.int (12)))) (ret (.int (3)))) (ret [])))) (ret [])))) (consM (tupM (consM (ret (.str (Str.ofString "or"))) (consM (lk σ 2) (consM (tupM (consM (ret (.str (Str.ofString "false"))) (ret []))) (ret []))))) (ret []))))) (binS .Mod (binS .FloorDiv (lk σ 1) (ret (.int (36)))) (ret (.int (3))))) fun d => ret (.next (put σ 3 d))) (b__law_part_by_0 cf)
noncomputable def b__law_part_by_2 (cf : Str → List D → EM D) (σ : Sg) : EM Fl :=
 seqM (bnd (tupM (consM (ret (.str (Str.ofString "false"))) (ret []))) fun d => ret (.ret d)) (nxt)
noncomputable def b__law_part_by_3 (cf : Str → List D → EM D) (σ : Sg) : EM Fl :=
 seqM (ifM (cmpS .Eq (binS .Mod (binS .FloorDiv (lk σ 1) (ret (.int (3)))) (ret (.int (4)))) (ret (.int (1)))) (b__law_part_by_2 cf σ) (nxt σ)) (b__law_part_by_1 cf)
noncomputable def b__law_part_by_4 (cf : Str → List D → EM D) (σ : Sg) : EM Fl :=
 seqM (bnd (lk σ 2) fun d => ret (.ret d)) (nxt)
noncomputable def b__law_part_by_5 (cf : Str → List D → EM D) (σ : Sg) : EM Fl :=
 seqM (ifM (cmpS .Eq (binS .Mod (binS .FloorDiv (lk σ 1) (ret (.int (3)))) (ret (.int (4)))) (ret (.int (0)))) (b__law_part_by_4 cf σ) (nxt σ)) (b__law_part_by_3 cf)
noncomputable def b__law_part_by_6 (cf : Str → List D → EM D) (σ : Sg) : EM Fl :=
 seqM (bnd (tupM (consM (ret (.str (Str.ofString "name"))) (consM (callN cf (Str.ofString "_law_name_by") (consM (lk σ 0) (consM (binS .Mod (lk σ 1) (ret (.int (3)))) (ret [])))) (ret [])))) fun d => ret (.next (put σ 2 d))) (b__law_part_by_5 cf)
noncomputable def s__law_part_by (cf : Str → List D → EM D) (a0 a1 : D) : EM D :=
 finM (b__law_part_by_6 cf [some a0, some a1, none, none, none])
noncomputable def b__law_added_0 (cf : Str → List D → EM D) (σ : Sg) : EM Fl :=
 seqM (bnd (binO .Add (lk σ 0) (lst0 (consM (tupM (consM (lk σ 2) (consM (tupM (consM (ret (.str (Str.ofString "false"))) (ret []))) (consM (ret (.str (Str.ofString "given"))) (consM (tupM (ret [])) (ret [])))))) (consM (tupM (consM (lk σ 2) (consM (lk σ 4) (consM (ret (.str (Str.ofString "any"))) (consM (tupM (consM (lk σ 7) (ret []))) (ret [])))))) (ret []))))) fun d => ret (.ret d)) (nxt)
noncomputable def b__law_added_1 (cf : Str → List D → EM D) (σ : Sg) : EM Fl :=
 seqM (bnd (binO .Add (binS .Add (lk σ 0) (lk σ 12)) (lst0 (consM (tupM (consM (lk σ 2) (consM (lk σ 5) (consM (ret (.str (Str.ofString "onward"))) (consM (tupM (consM (lk σ 7) (consM (binS .Add (lk σ 7) (ret (.int (1)))) (ret [])))) (ret [])))))) (ret [])))) fun d => ret (.ret d)) (nxt)
noncomputable def b__law_added_2 (cf : Str → List D → EM D) (σ : Sg) : EM Fl :=
 seqM (bnd (lst0 (consM (tupM (consM (lk σ 2) (consM (tupM (consM (ret (.str (Str.ofString "then"))) (consM (lk σ 4) (consM (lk σ 5) (ret []))))) (consM (ret (.str (Str.ofString "given"))) (consM (tupM (ret [])) (ret [])))))) (consM (tupM (consM (lk σ 2) (consM (lk σ 4) (consM (ret (.str (Str.ofString "given"))) (consM (tupM (ret [])) (ret [])))))) (ret [])))) fun d => ret (.next (put σ 12 d))) (b__law_added_1 cf)
noncomputable def b__law_added_3 (cf : Str → List D → EM D) (σ : Sg) : EM Fl :=
 seqM (ifM (cmpS .Eq (lk σ 1) (ret (.int (8)))) (b__law_added_2 cf σ) (nxt σ)) (b__law_added_0 cf)
noncomputable def b__law_added_4 (cf : Str → List D → EM D) (σ : Sg) : EM Fl :=
 seqM (bnd (binO .Add (lk σ 0) (lst0 (consM (tupM (consM (binS .Add (lk σ 12) (lk σ 2)) (consM (lk σ 5) (consM (ret (.str (Str.ofString "given"))) (consM (tupM (ret [])) (ret [])))))) (consM (tupM (consM (lk σ 2) (consM (tupM (consM (ret (.str (Str.ofString "then"))) (consM (lk σ 4) (consM (lk σ 5) (ret []))))) (consM (ret (.str (Str.ofString "suppose"))) (consM (tupM (consM (lk σ 7) (ret []))) (ret [])))))) (ret []))))) fun d => ret (.ret d)) (nxt)
noncomputable def b__law_added_5 (cf : Str → List D → EM D) (σ : Sg) : EM Fl :=
 seqM (bnd (subS (lst0 (consM (tupM (consM (lk σ 4) (ret []))) (consM (tupM (consM (lk σ 5) (ret []))) (consM (tupM (consM (lk σ 4) (consM (lk σ 5) (ret [])))) (consM (tupM (consM (lk σ 5) (consM (lk σ 4) (ret [])))) (ret [])))))) (binS .Mod (lk σ 7) (ret (.int (4))))) fun d => ret (.next (put σ 12 d))) (b__law_added_4 cf)
noncomputable def b__law_added_6 (cf : Str → List D → EM D) (σ : Sg) : EM Fl :=
 seqM (ifM (cmpS .Eq (lk σ 1) (ret (.int (7)))) (b__law_added_5 cf σ) (nxt σ)) (b__law_added_3 cf)
noncomputable def b__law_added_7 (cf : Str → List D → EM D) (σ : Sg) : EM Fl :=
 seqM (bnd (binO .Add (binS .Add (lk σ 0) (lk σ 12)) (lst0 (consM (tupM (consM (lk σ 2) (consM (lk σ 11) (consM (ret (.str (Str.ofString "cases"))) (consM (tupM (consM (lk σ 7) (consM (binS .Add (lk σ 7) (ret (.int (1)))) (consM (binS .Add (lk σ 7) (ret (.int (2)))) (ret []))))) (ret [])))))) (ret [])))) fun d => ret (.ret d)) (nxt)
noncomputable def b__law_added_8 (cf : Str → List D → EM D) (σ : Sg) : EM Fl :=
 seqM (bnd (methS mAppend (lk σ 12) (consM (tupM (consM (binS .Add (lk σ 10) (lk σ 2)) (consM (lk σ 11) (consM (ret (.str (Str.ofString "given"))) (consM (tupM (ret [])) (ret [])))))) (ret []))) fun _ => ret (.next σ)) (b__law_added_7 cf)
noncomputable def b__law_added_9 (cf : Str → List D → EM D) (σ : Sg) : EM Fl :=
 seqM (bnd (lstO' (consM (tupM (consM (lk σ 2) (consM (tupM (consM (ret (.str (Str.ofString "or"))) (consM (lk σ 4) (consM (lk σ 5) (ret []))))) (consM (ret (.str (Str.ofString "given"))) (consM (tupM (ret [])) (ret [])))))) (consM (tupM (consM (binS .Add (lk σ 2) (lk σ 9)) (consM (lk σ 11) (consM (ret (.str (Str.ofString "given"))) (consM (tupM (ret [])) (ret [])))))) (ret [])))) fun d => ret (.next (put σ 12 d))) (b__law_added_8 cf)
noncomputable def b__law_added_10 (cf : Str → List D → EM D) (σ : Sg) : EM Fl :=
 seqM (bnd (subS (lst0 (consM (subS (lk σ 9) (bnd (ret (.int (1))) fun a => unop .USub a)) (consM (lk σ 6) (ret [])))) (binS .Mod (binS .FloorDiv (lk σ 7) (ret (.int (4)))) (ret (.int (2))))) fun d => ret (.next (put σ 11 d))) (b__law_added_9 cf)
noncomputable def b__law_added_11 (cf : Str → List D → EM D) (σ : Sg) : EM Fl :=
 seqM (bnd (subS (lst0 (consM (tupM (consM (lk σ 5) (ret []))) (consM (tupM (consM (lk σ 5) (ret []))) (consM (tupM (consM (lk σ 4) (ret []))) (consM (tupM (consM (lk σ 5) (consM (lk σ 4) (ret [])))) (ret [])))))) (binS .Mod (lk σ 7) (ret (.int (4))))) fun d => ret (.next (put σ 10 d))) (b__law_added_10 cf)
noncomputable def b__law_added_12 (cf : Str → List D → EM D) (σ : Sg) : EM Fl :=
 seqM (bnd (subS (lst0 (consM (tupM (consM (lk σ 4) (ret []))) (consM (tupM (consM (lk σ 5) (ret []))) (consM (tupM (consM (lk σ 4) (ret []))) (consM (tupM (consM (lk σ 4) (consM (lk σ 5) (ret [])))) (ret [])))))) (binS .Mod (lk σ 7) (ret (.int (4))))) fun d => ret (.next (put σ 9 d))) (b__law_added_11 cf)
noncomputable def b__law_added_13 (cf : Str → List D → EM D) (σ : Sg) : EM Fl :=
 seqM (ifM (cmpS .Eq (lk σ 1) (ret (.int (6)))) (b__law_added_12 cf σ) (nxt σ)) (b__law_added_6 cf)
noncomputable def b__law_added_14 (cf : Str → List D → EM D) (σ : Sg) : EM Fl :=
 seqM (bnd (binO .Add (lk σ 0) (lst0 (consM (tupM (consM (lk σ 2) (consM (subS (lst0 (consM (lk σ 4) (consM (lk σ 5) (ret [])))) (binS .Sub (lk σ 1) (ret (.int (4))))) (consM (ret (.str (Str.ofString "given"))) (consM (tupM (ret [])) (ret [])))))) (consM (tupM (consM (lk σ 2) (consM (tupM (consM (ret (.str (Str.ofString "or"))) (consM (lk σ 4) (consM (lk σ 5) (ret []))))) (consM (lk σ 8) (consM (tupM (consM (lk σ 7) (ret []))) (ret [])))))) (ret []))))) fun d => ret (.ret d)) (nxt)
noncomputable def b__law_added_15 (cf : Str → List D → EM D) (σ : Sg) : EM Fl :=
 seqM (bnd (subS (lst0 (consM (ret (.str (Str.ofString "one"))) (consM (ret (.str (Str.ofString "other"))) (ret [])))) (binS .Sub (lk σ 1) (ret (.int (4))))) fun d => ret (.next (put σ 8 d))) (b__law_added_14 cf)
noncomputable def b__law_added_16 (cf : Str → List D → EM D) (σ : Sg) : EM Fl :=
 seqM (ifM (cmpS .Lt (lk σ 1) (ret (.int (6)))) (b__law_added_15 cf σ) (nxt σ)) (b__law_added_13 cf)
noncomputable def b__law_added_17 (cf : Str → List D → EM D) (σ : Sg) : EM Fl :=
 seqM (bnd (binO .Add (lk σ 0) (lst0 (consM (tupM (consM (lk σ 2) (consM (tupM (consM (ret (.str (Str.ofString "and"))) (consM (lk σ 4) (consM (lk σ 5) (ret []))))) (consM (ret (.str (Str.ofString "given"))) (consM (tupM (ret [])) (ret [])))))) (consM (tupM (consM (binS .Add (lk σ 2) (tupM (consM (lk σ 6) (ret [])))) (consM (subS (lst0 (consM (lk σ 4) (consM (lk σ 5) (ret [])))) (binS .Sub (lk σ 1) (ret (.int (2))))) (consM (lk σ 8) (consM (tupM (consM (lk σ 7) (ret []))) (ret [])))))) (ret []))))) fun d => ret (.ret d)) (nxt)
noncomputable def b__law_added_18 (cf : Str → List D → EM D) (σ : Sg) : EM Fl :=
 seqM (bnd (subS (lst0 (consM (ret (.str (Str.ofString "left"))) (consM (ret (.str (Str.ofString "right"))) (ret [])))) (binS .Sub (lk σ 1) (ret (.int (2))))) fun d => ret (.next (put σ 8 d))) (b__law_added_17 cf)
noncomputable def b__law_added_19 (cf : Str → List D → EM D) (σ : Sg) : EM Fl :=
 seqM (ifM (cmpS .Lt (lk σ 1) (ret (.int (4)))) (b__law_added_18 cf σ) (nxt σ)) (b__law_added_16 cf)
noncomputable def b__law_added_20 (cf : Str → List D → EM D) (σ : Sg) : EM Fl :=
 seqM (bnd (binO .Add (lk σ 0) (lst0 (consM (tupM (consM (lk σ 2) (consM (lk σ 4) (consM (ret (.str (Str.ofString "given"))) (consM (tupM (ret [])) (ret [])))))) (consM (tupM (consM (lk σ 2) (consM (lk σ 5) (consM (ret (.str (Str.ofString "given"))) (consM (tupM (ret [])) (ret [])))))) (consM (tupM (consM (lk σ 2) (consM (tupM (consM (ret (.str (Str.ofString "and"))) (consM (lk σ 4) (consM (lk σ 5) (ret []))))) (consM (ret (.str (Str.ofString "both"))) (consM (tupM (consM (lk σ 7) (consM (binS .Add (lk σ 7) (ret (.int (1)))) (ret [])))) (ret [])))))) (ret [])))))) fun d => ret (.ret d)) (nxt)
noncomputable def b__law_added_21 (cf : Str → List D → EM D) (σ : Sg) : EM Fl :=
 seqM (ifM (cmpS .Eq (lk σ 1) (ret (.int (1)))) (b__law_added_20 cf σ) (nxt σ)) (b__law_added_19 cf)
noncomputable def b__law_added_22 (cf : Str → List D → EM D) (σ : Sg) : EM Fl :=
 seqM (bnd (binO .Add (lk σ 0) (lst0 (consM (tupM (consM (binS .Add (lk σ 2) (tupM (consM (lk σ 4) (ret [])))) (consM (lk σ 4) (consM (ret (.str (Str.ofString "given"))) (consM (tupM (ret [])) (ret [])))))) (ret [])))) fun d => ret (.ret d)) (nxt)
noncomputable def b__law_added_23 (cf : Str → List D → EM D) (σ : Sg) : EM Fl :=
 seqM (ifM (cmpS .Eq (lk σ 1) (ret (.int (0)))) (b__law_added_22 cf σ) (nxt σ)) (b__law_added_21 cf)
noncomputable def b__law_added_24 (cf : Str → List D → EM D) (σ : Sg) : EM Fl :=
 seqM (bnd (bnd (consM (lk σ 0) (ret [])) fun ds => bf0 .len ds) fun d => ret (.next (put σ 7 d))) (b__law_added_23 cf)
noncomputable def b__law_added_25 (cf : Str → List D → EM D) (σ : Sg) : EM Fl :=
 seqM (asgT [4, 5, 6] σ (lk σ 3)) (b__law_added_24 cf)
noncomputable def s__law_added (cf : Str → List D → EM D) (a0 a1 a2 a3 : D) : EM D :=
 finM (b__law_added_25 cf [some a0, some a1, some a2, some a3, none, none, none, none, none, none, none, none, none, none])
noncomputable def b__law_wrong_ups_0 (cf : Str → List D → EM D) (σ : Sg) : EM Fl :=
 seqM (bnd (binS .Add (binS .Add (sliS (lk σ 0) (ret .none) (lk σ 4)) (tupM (consM (subS (lk σ 5) (binS .Mod (binS .FloorDiv (lk σ 1) (ret (.int (9)))) (ret (.int (8))))) (ret [])))) (sliS (lk σ 0) (binS .Add (lk σ 4) (ret (.int (1)))) (ret .none))) fun d => ret (.ret d)) (nxt)
noncomputable def b__law_wrong_ups_1 (cf : Str → List D → EM D) (σ : Sg) : EM Fl :=
 seqM (bnd (lst0 (consM (lk σ 2) (consM (binS .Add (lk σ 2) (ret (.int (1)))) (consM (binS .Sub (subS (lk σ 0) (lk σ 4)) (lk σ 3)) (consM (binS .Sub (subS (lk σ 0) (lk σ 4)) (ret (.int (1)))) (consM (binS .Mod (binS .FloorDiv (lk σ 1) (ret (.int (9)))) (binS .Add (lk σ 2) (ret (.int (1))))) (consM (binS .Pow (ret (.int (10))) (ret (.int (12)))) (consM (lk σ 3) (consM (bnd (ret (.int (1))) fun a => unop .USub a) (ret [])))))))))) fun d => ret (.next (put σ 5 d))) (b__law_wrong_ups_0 cf)
noncomputable def b__law_wrong_ups_2 (cf : Str → List D → EM D) (σ : Sg) : EM Fl :=
 seqM (bnd (binS .Add (sliS (lk σ 0) (ret .none) (lk σ 4)) (sliS (lk σ 0) (binS .Add (lk σ 4) (ret (.int (1)))) (ret .none))) fun d => ret (.ret d)) (nxt)
noncomputable def b__law_wrong_ups_3 (cf : Str → List D → EM D) (σ : Sg) : EM Fl :=
 seqM (ifM (cmpS .Eq (binS .Mod (lk σ 1) (ret (.int (3)))) (ret (.int (1)))) (b__law_wrong_ups_2 cf σ) (nxt σ)) (b__law_wrong_ups_1 cf)
noncomputable def b__law_wrong_ups_4 (cf : Str → List D → EM D) (σ : Sg) : EM Fl :=
 seqM (bnd (binS .Mod (binS .FloorDiv (lk σ 1) (ret (.int (3)))) (bnd (consM (lk σ 0) (ret [])) fun ds => bf0 .len ds)) fun d => ret (.next (put σ 4 d))) (b__law_wrong_ups_3 cf)
noncomputable def b__law_wrong_ups_5 (cf : Str → List D → EM D) (σ : Sg) : EM Fl :=
 seqM (bnd (binS .Add (lk σ 0) (tupM (consM (binS .Mod (binS .FloorDiv (lk σ 1) (ret (.int (3)))) (binS .Add (lk σ 2) (ret (.int (1))))) (ret [])))) fun d => ret (.ret d)) (nxt)
noncomputable def b__law_wrong_ups_6 (cf : Str → List D → EM D) (σ : Sg) : EM Fl :=
 seqM (ifM (orM (cmpS .Eq (bnd (consM (lk σ 0) (ret [])) fun ds => bf0 .len ds) (ret (.int (0)))) (orM (cmpS .Eq (binS .Mod (lk σ 1) (ret (.int (3)))) (ret (.int (0)))) (ret false))) (b__law_wrong_ups_5 cf σ) (nxt σ)) (b__law_wrong_ups_4 cf)
noncomputable def s__law_wrong_ups (cf : Str → List D → EM D) (a0 a1 a2 a3 : D) : EM D :=
 finM (b__law_wrong_ups_6 cf [some a0, some a1, some a2, some a3, none, none, none])
noncomputable def b__law_spoilt_0 (cf : Str → List D → EM D) (σ : Sg) : EM Fl :=
 seqM (bnd (tupM (consM (tupM (ret [])) (consM (lk σ 8) (consM (lk σ 9) (consM (lk σ 10) (ret [])))))) fun d => ret (.ret d)) (nxt)
noncomputable def b__law_spoilt_1 (cf : Str → List D → EM D) (σ : Sg) : EM Fl :=
 seqM (bnd (tupM (consM (lk σ 7) (consM (tupM (consM (subS (lst0 (consM (ret (.str (Str.ofString "and"))) (consM (ret (.str (Str.ofString "or"))) (consM (ret (.str (Str.ofString "then"))) (ret []))))) (binS .Mod (lk σ 6) (ret (.int (3))))) (consM (subS (lk σ 8) (ret (.int (2)))) (consM (subS (lk σ 8) (ret (.int (1)))) (ret []))))) (consM (lk σ 9) (consM (lk σ 10) (ret [])))))) fun d => ret (.ret d)) (nxt)
noncomputable def b__law_spoilt_2 (cf : Str → List D → EM D) (σ : Sg) : EM Fl :=
 seqM (ifM (cmpS .Eq (bnd (consM (lk σ 8) (ret [])) fun ds => bf0 .len ds) (ret (.int (3)))) (b__law_spoilt_1 cf σ) (nxt σ)) (b__law_spoilt_0 cf)
noncomputable def b__law_spoilt_3 (cf : Str → List D → EM D) (σ : Sg) : EM Fl :=
 seqM (bnd (tupM (consM (binS .Add (lk σ 7) (tupM (consM (lk σ 4) (ret [])))) (consM (lk σ 8) (consM (lk σ 9) (consM (lk σ 10) (ret [])))))) fun d => ret (.ret d)) (nxt)
noncomputable def b__law_spoilt_4 (cf : Str → List D → EM D) (σ : Sg) : EM Fl :=
 seqM (ifM (cmpS .Eq (lk σ 5) (ret (.int (7)))) (b__law_spoilt_3 cf σ) (nxt σ)) (b__law_spoilt_2 cf)
noncomputable def b__law_spoilt_5 (cf : Str → List D → EM D) (σ : Sg) : EM Fl :=
 seqM (bnd (tupM (consM (lk σ 7) (consM (lk σ 8) (consM (lk σ 9) (consM (revS (lk σ 10)) (ret [])))))) fun d => ret (.ret d)) (nxt)
noncomputable def b__law_spoilt_6 (cf : Str → List D → EM D) (σ : Sg) : EM Fl :=
 seqM (ifM (cmpS .Eq (lk σ 5) (ret (.int (6)))) (b__law_spoilt_5 cf σ) (nxt σ)) (b__law_spoilt_4 cf)
noncomputable def b__law_spoilt_7 (cf : Str → List D → EM D) (σ : Sg) : EM Fl :=
 seqM (bnd (tupM (consM (lk σ 7) (consM (lk σ 8) (consM (methS mGet (lk σ 12) (consM (lk σ 9) (consM (ret (.str (Str.ofString "any"))) (ret [])))) (consM (lk σ 10) (ret [])))))) fun d => ret (.ret d)) (nxt)
noncomputable def b__law_spoilt_8 (cf : Str → List D → EM D) (σ : Sg) : EM Fl :=
 seqM (bnd (ret (.dict [((Str.ofString "left"), .str (Str.ofString "right")), ((Str.ofString "right"), .str (Str.ofString "left")), ((Str.ofString "one"), .str (Str.ofString "other")), ((Str.ofString "other"), .str (Str.ofString "one")), ((Str.ofString "onward"), .str (Str.ofString "both")), ((Str.ofString "both"), .str (Str.ofString "onward"))])) fun d => ret (.next (put σ 12 d))) (b__law_spoilt_7 cf)
noncomputable def b__law_spoilt_9 (cf : Str → List D → EM D) (σ : Sg) : EM Fl :=
 seqM (ifM (cmpS .Eq (lk σ 5) (ret (.int (5)))) (b__law_spoilt_8 cf σ) (nxt σ)) (b__law_spoilt_6 cf)
noncomputable def b__law_spoilt_10 (cf : Str → List D → EM D) (σ : Sg) : EM Fl :=
 seqM (bnd (tupM (consM (lk σ 7) (consM (lk σ 8) (consM (lk σ 9) (consM (callN cf (Str.ofString "_law_wrong_ups") (consM (lk σ 10) (consM (lk σ 6) (consM (lk σ 2) (consM (lk σ 3) (ret [])))))) (ret [])))))) fun d => ret (.ret d)) (nxt)
noncomputable def b__law_spoilt_11 (cf : Str → List D → EM D) (σ : Sg) : EM Fl :=
 seqM (ifM (cmpS .Lt (lk σ 5) (ret (.int (5)))) (b__law_spoilt_10 cf σ) (nxt σ)) (b__law_spoilt_9 cf)
noncomputable def b__law_spoilt_12 (cf : Str → List D → EM D) (σ : Sg) : EM Fl :=
 seqM (bnd (tupM (consM (lk σ 7) (consM (lk σ 8) (consM (subS (lk σ 11) (binS .Mod (lk σ 6) (ret (.int (18))))) (consM (lk σ 10) (ret [])))))) fun d => ret (.ret d)) (nxt)
noncomputable def b__law_spoilt_13 (cf : Str → List D → EM D) (σ : Sg) : EM Fl :=
 seqM (bnd (binS .Add (lk σ 11) (lst0 (consM (binS .Add (lk σ 9) (ret (.str (Str.ofString " ")))) (consM (binS .Add (ret (.str (Str.ofString " "))) (lk σ 9)) (consM (sliS (lk σ 9) (ret .none) (bnd (ret (.int (1))) fun a => unop .USub a)) (consM (binS .Add (lk σ 9) (ret (.str (Str.ofString "s")))) (consM (methS mUpper (lk σ 9) (ret [])) (consM (sliS (lk σ 9) (ret (.int (1))) (ret .none)) (ret []))))))))) fun d => ret (.next (put σ 11 d))) (b__law_spoilt_12 cf)
noncomputable def b__law_spoilt_14 (cf : Str → List D → EM D) (σ : Sg) : EM Fl :=
 seqM (bnd (lst0 (consM (ret (.str (Str.ofString "given"))) (consM (ret (.str (Str.ofString "both"))) (consM (ret (.str (Str.ofString "left"))) (consM (ret (.str (Str.ofString "right"))) (consM (ret (.str (Str.ofString "one"))) (consM (ret (.str (Str.ofString "other"))) (consM (ret (.str (Str.ofString "cases"))) (consM (ret (.str (Str.ofString "suppose"))) (consM (ret (.str (Str.ofString "onward"))) (consM (ret (.str (Str.ofString "any"))) (consM (ret (.str (Str.ofString ""))) (consM (ret (.str (Str.ofString "Given"))) (ret [])))))))))))))) fun d => ret (.next (put σ 11 d))) (b__law_spoilt_13 cf)
noncomputable def b__law_spoilt_15 (cf : Str → List D → EM D) (σ : Sg) : EM Fl :=
 seqM (ifM (cmpS .Eq (lk σ 5) (ret (.int (2)))) (b__law_spoilt_14 cf σ) (nxt σ)) (b__law_spoilt_11 cf)
noncomputable def b__law_spoilt_16 (cf : Str → List D → EM D) (σ : Sg) : EM Fl :=
 seqM (bnd (tupM (consM (lk σ 7) (consM (lk σ 4) (consM (lk σ 9) (consM (lk σ 10) (ret [])))))) fun d => ret (.ret d)) (nxt)
noncomputable def b__law_spoilt_17 (cf : Str → List D → EM D) (σ : Sg) : EM Fl :=
 seqM (ifM (cmpS .Eq (lk σ 5) (ret (.int (1)))) (b__law_spoilt_16 cf σ) (nxt σ)) (b__law_spoilt_15 cf)
noncomputable def b__law_spoilt_18 (cf : Str → List D → EM D) (σ : Sg) : EM Fl :=
 seqM (bnd (tupM (consM (binS .Add (sliS (lk σ 7) (ret .none) (binS .Mod (lk σ 6) (bnd (consM (lk σ 7) (ret [])) fun ds => bf0 .len ds))) (sliS (lk σ 7) (binS .Add (binS .Mod (lk σ 6) (bnd (consM (lk σ 7) (ret [])) fun ds => bf0 .len ds)) (ret (.int (1)))) (ret .none))) (consM (lk σ 8) (consM (lk σ 9) (consM (lk σ 10) (ret [])))))) fun d => ret (.ret d)) (nxt)
noncomputable def b__law_spoilt_19 (cf : Str → List D → EM D) (σ : Sg) : EM Fl :=
 seqM (ifM (andM (cmpS .Eq (lk σ 5) (ret (.int (0)))) (andM (cmpS .Gt (bnd (consM (lk σ 7) (ret [])) fun ds => bf0 .len ds) (ret (.int (0)))) (ret true))) (b__law_spoilt_18 cf σ) (nxt σ)) (b__law_spoilt_17 cf)
noncomputable def b__law_spoilt_20 (cf : Str → List D → EM D) (σ : Sg) : EM Fl :=
 seqM (asgT [7, 8, 9, 10] σ (lk σ 0)) (b__law_spoilt_19 cf)
noncomputable def b__law_spoilt_21 (cf : Str → List D → EM D) (σ : Sg) : EM Fl :=
 seqM (bnd (binS .FloorDiv (lk σ 1) (ret (.int (9)))) fun d => ret (.next (put σ 6 d))) (b__law_spoilt_20 cf)
noncomputable def b__law_spoilt_22 (cf : Str → List D → EM D) (σ : Sg) : EM Fl :=
 seqM (bnd (binS .Mod (lk σ 1) (ret (.int (9)))) fun d => ret (.next (put σ 5 d))) (b__law_spoilt_21 cf)
noncomputable def s__law_spoilt (cf : Str → List D → EM D) (a0 a1 a2 a3 a4 : D) : EM D :=
 finM (b__law_spoilt_22 cf [some a0, some a1, some a2, some a3, some a4, none, none, none, none, none, none, none, none, none, none, none, none])
noncomputable def b__law_all_spoilt_0 (cf : Str → List D → EM D) (σ : Sg) : EM Fl :=
 seqM (bnd (lk σ 0) fun d => ret (.ret d)) (nxt)
noncomputable def b__law_all_spoilt_1 (cf : Str → List D → EM D) (σ : Sg) : EM Fl :=
 seqM (bnd (callN cf (Str.ofString "_law_spoilt") (consM (subS (lk σ 0) (lk σ 4)) (consM (binS .FloorDiv (callN cf (Str.ofString "_law_cell_at") (consM (lk σ 1) (consM (ret (.int (3))) (ret [])))) (subS (lst0 (consM (ret (.int (1))) (consM (ret (.int (11))) (consM (ret (.int (121))) (consM (ret (.int (1331))) (ret [])))))) (lk σ 3))) (consM (lk σ 4) (consM (bnd (consM (lk σ 0) (ret [])) fun ds => bf0 .len ds) (consM (lk σ 5) (ret []))))))) fun d => bnd (lk σ 0) fun a => bnd (lk σ 4) fun k => bnd (setItemM a k d) fun _ => ret (.next σ)) (nxt)
noncomputable def b__law_all_spoilt_2 (cf : Str → List D → EM D) (σ : Sg) : EM Fl :=
 seqM (bnd (bfS bMax false (consM (ret (.int (0))) (consM (bfS bMin2 false (consM (binS .Sub (bnd (consM (lk σ 0) (ret [])) fun ds => bf0 .len ds) (ret (.int (1)))) (consM (subS (subS (subS (lk σ 0) (lk σ 4)) (ret (.int (3)))) (ret (.int (0)))) (ret [])))) (ret [])))) fun d => ret (.next (put σ 4 d))) (nxt)
noncomputable def b__law_all_spoilt_3 (cf : Str → List D → EM D) (σ : Sg) : EM Fl :=
 seqM (ifM (andM (cmpS .Eq (binS .Mod (lk σ 3) (ret (.int (2)))) (ret (.int (1)))) (andM (cmpS .Gt (bnd (consM (subS (subS (lk σ 0) (lk σ 4)) (ret (.int (3)))) (ret [])) fun ds => bf0 .len ds) (ret (.int (0)))) (ret true))) (b__law_all_spoilt_2 cf σ) (nxt σ)) (b__law_all_spoilt_1 cf)
noncomputable def b__law_all_spoilt_4 (cf : Str → List D → EM D) (σ : Sg) : EM Fl :=
 seqM (bnd (bnd (consM (lk σ 2) (consM (binS .Add (binS .FloorDiv (callN cf (Str.ofString "_law_cell_at") (consM (lk σ 1) (consM (ret (.int (1))) (ret [])))) (ret (.int (5)))) (lk σ 3)) (ret []))) fun ds => cf (Str.ofString "_law_part_by") ds) fun d => ret (.next (put σ 5 d))) (b__law_all_spoilt_3 cf)
noncomputable def b__law_all_spoilt_5 (cf : Str → List D → EM D) (σ : Sg) : EM Fl :=
 seqM (bnd (binS .Mod (binS .FloorDiv (callN cf (Str.ofString "_law_cell_at") (consM (lk σ 1) (consM (ret (.int (2))) (ret [])))) (subS (lst0 (consM (ret (.int (1))) (consM (ret (.int (7))) (consM (ret (.int (49))) (consM (ret (.int (343))) (ret [])))))) (lk σ 3))) (bnd (consM (lk σ 0) (ret [])) fun ds => bf0 .len ds)) fun d => ret (.next (put σ 4 d))) (b__law_all_spoilt_4 cf)
noncomputable def b__law_all_spoilt_6 (cf : Str → List D → EM D) (σ : Sg) : EM Fl :=
 seqM (forM' (bnd (consM (binS .Mod (callN cf (Str.ofString "_law_cell_at") (consM (lk σ 1) (consM (ret (.int (1))) (ret [])))) (ret (.int (5)))) (ret [])) fun ds => bf0 .range ds) (fun d σ => b__law_all_spoilt_5 cf (put σ 3 d)) σ) (b__law_all_spoilt_0 cf)
noncomputable def s__law_all_spoilt (cf : Str → List D → EM D) (a0 a1 a2 : D) : EM D :=
 finM (b__law_all_spoilt_6 cf [some a0, some a1, some a2, none, none, none, none, none, none, none, none, none, none])
noncomputable def b__law_rows_by_0 (cf : Str → List D → EM D) (σ : Sg) : EM Fl :=
 seqM (bnd (lk σ 2) fun d => ret (.ret d)) (nxt)
noncomputable def b__law_rows_by_1 (cf : Str → List D → EM D) (σ : Sg) : EM Fl :=
 seqM (bnd (bnd (consM (lk σ 2) (consM (binS .Mod (lk σ 4) (ret (.int (10)))) (consM (lk σ 7) (consM (lk σ 5) (ret []))))) fun ds => cf (Str.ofString "_law_added") ds) fun d => ret (.next (put σ 2 d))) (nxt)
noncomputable def b__law_rows_by_2 (cf : Str → List D → EM D) (σ : Sg) : EM Fl :=
 seqM (bnd (binS .Add (binS .Add (binMu .Mult (tupM (consM (subS (lk σ 5) (binS .Mod (lk σ 6) (ret (.int (3))))) (ret []))) (binS .Mod (binS .FloorDiv (lk σ 6) (ret (.int (3)))) (ret (.int (2))))) (binMu .Mult (tupM (consM (tupM (consM (ret (.str (Str.ofString "false"))) (ret []))) (ret []))) (binS .Mod (binS .FloorDiv (lk σ 6) (ret (.int (6)))) (ret (.int (2)))))) (tupM (consM (subS (lk σ 5) (binS .Mod (binS .FloorDiv (lk σ 6) (ret (.int (12)))) (ret (.int (3))))) (ret [])))) fun d => ret (.next (put σ 7 d))) (b__law_rows_by_1 cf)
noncomputable def b__law_rows_by_3 (cf : Str → List D → EM D) (σ : Sg) : EM Fl :=
 seqM (bnd (subS (lk σ 0) (binS .Add (binS .Mult (ret (.int (2))) (lk σ 3)) (ret (.int (1))))) fun d => ret (.next (put σ 6 d))) (b__law_rows_by_2 cf)
noncomputable def t__law_rows_by_4 (cf : Str → List D → EM D) (σ : Sg) (d : D) : EM (Option D) :=
 (fun σc => turnS (ret true) (callN cf (Str.ofString "_law_part_by") (consM (lk σc 4) (consM (binS .FloorDiv (binS .FloorDiv (lk σc 3) (ret (.int (10)))) (subS (lst0 (consM (ret (.int (1))) (consM (ret (.int (400))) (consM (ret (.int (160000))) (ret []))))) (lk σc 1))) (ret []))))) (put [none, none, none, (σ[4]?).join, (σ[1]?).join] 1 d)
noncomputable def b__law_rows_by_5 (cf : Str → List D → EM D) (σ : Sg) : EM Fl :=
 seqM (bnd (bnd (consM (comp0 (bnd (consM (ret (.int (3))) (ret [])) fun ds => bf0 .range ds) (t__law_rows_by_4 cf σ)) (ret [])) fun ds => bf0 .tuple ds) fun d => ret (.next (put σ 5 d))) (b__law_rows_by_3 cf)
noncomputable def b__law_rows_by_6 (cf : Str → List D → EM D) (σ : Sg) : EM Fl :=
 seqM (bnd (subS (lk σ 0) (binS .Mult (ret (.int (2))) (lk σ 3))) fun d => ret (.next (put σ 4 d))) (b__law_rows_by_5 cf)
noncomputable def b__law_rows_by_7 (cf : Str → List D → EM D) (σ : Sg) : EM Fl :=
 seqM (forM' (bnd (consM (bfS bMin2 false (consM (ret (.int (10))) (consM (binS .FloorDiv (bnd (consM (lk σ 0) (ret [])) fun ds => bf0 .len ds) (ret (.int (2)))) (ret [])))) (ret [])) fun ds => bf0 .range ds) (fun d σ => b__law_rows_by_6 cf (put σ 3 d)) σ) (b__law_rows_by_0 cf)
noncomputable def b__law_rows_by_8 (cf : Str → List D → EM D) (σ : Sg) : EM Fl :=
 seqM (bnd (lst0 (ret [])) fun d => ret (.next (put σ 2 d))) (b__law_rows_by_7 cf)
noncomputable def s__law_rows_by (cf : Str → List D → EM D) (a0 a1 : D) : EM D :=
 finM (b__law_rows_by_8 cf [some a0, some a1, none, none, none, none, none, none, none, none, none, none, none])
noncomputable def t_law_0 (cf : Str → List D → EM D) (σ : Sg) (d : D) : EM (Option D) :=
 (fun σc => turnS (andM (cmpS .Lt (lk σc 1) (ret (.int (1)))) (ret true)) (lk σc 1)) (put [none, none] 1 d)
noncomputable def b_law_1 (cf : Str → List D → EM D) (σ : Sg) : EM Fl :=
 seqM (bnd (frzS (fun σ => (andV (cmpB .Eq (callN cf (Str.ofString "faults") (consM (lk σ 2) (ret []))) (lk σ 4)) (cmpB .Eq (callN cf (Str.ofString "faults") (consM (sliS (lk σ 2) (ret .none) (ret (.int (1)))) (ret []))) (comp0 (lk σ 4) (t_law_0 cf σ))))) σ) fun d => ret (.ret d)) (nxt)
noncomputable def b_law_2 (cf : Str → List D → EM D) (σ : Sg) : EM Fl :=
 seqM (bnd (methS mAppend (lk σ 6) (consM (ret (.int (5))) (ret []))) fun _ => ret (.next σ)) (b_law_1 cf)
noncomputable def b_law_3 (cf : Str → List D → EM D) (σ : Sg) : EM Fl :=
 seqM (bnd (ret (.bool false)) fun d => ret (.ret d)) (nxt)
noncomputable def b_law_4 (cf : Str → List D → EM D) (σ : Sg) : EM Fl :=
 seqM (ifM (orM (notM (bnd (isaX [] (Str.ofString "list") (lk σ 6)) truthM)) (orM (cmpS .NotEq (lk σ 6) (lk σ 4)) (orM (cmpS .NotEq (lk σ 2) (lk σ 3)) (ret false)))) (b_law_3 cf σ) (nxt σ)) (b_law_2 cf)
noncomputable def b_law_5 (cf : Str → List D → EM D) (σ : Sg) : EM Fl :=
 seqM (bnd (bnd (consM (lk σ 2) (ret [])) fun ds => cf (Str.ofString "faults") ds) fun d => ret (.next (put σ 6 d))) (b_law_4 cf)
noncomputable def b_law_6 (cf : Str → List D → EM D) (σ : Sg) : EM Fl :=
 seqM (bnd (methS mAppend (lk σ 4) (consM (lk σ 5) (ret []))) fun _ => ret (.next σ)) (nxt)
noncomputable def b_law_7 (cf : Str → List D → EM D) (σ : Sg) : EM Fl :=
 seqM (ifM (notM (bnd (lk σ 6) truthM)) (b_law_6 cf σ) (nxt σ)) (nxt)
noncomputable def b_law_8 (cf : Str → List D → EM D) (σ : Sg) : EM Fl :=
 seqM (bnd (ret (.bool false)) fun d => ret (.ret d)) (nxt)
noncomputable def b_law_9 (cf : Str → List D → EM D) (σ : Sg) : EM Fl :=
 seqM (ifM (orM (notM (bnd (isaX [] (Str.ofString "bool") (lk σ 6)) truthM)) (orM (cmpS .NotEq (lk σ 6) (callN cf (Str.ofString "_law_follows") (consM (lk σ 2) (consM (lk σ 5) (ret []))))) (ret false))) (b_law_8 cf σ) (nxt σ)) (b_law_7 cf)
noncomputable def b_law_10 (cf : Str → List D → EM D) (σ : Sg) : EM Fl :=
 seqM (bnd (bnd (consM (lk σ 2) (consM (lk σ 5) (ret []))) fun ds => cf (Str.ofString "follows") ds) fun d => ret (.next (put σ 6 d))) (b_law_9 cf)
noncomputable def b_law_11 (cf : Str → List D → EM D) (σ : Sg) : EM Fl :=
 seqM (forM' (bnd (consM (bnd (consM (lk σ 2) (ret [])) fun ds => bf0 .len ds) (ret [])) fun ds => bf0 .range ds) (fun d σ => b_law_10 cf (put σ 5 d)) σ) (b_law_5 cf)
noncomputable def b_law_12 (cf : Str → List D → EM D) (σ : Sg) : EM Fl :=
 seqM (bnd (lstO' (ret [])) fun d => ret (.next (put σ 4 d))) (b_law_11 cf)
noncomputable def b_law_13 (cf : Str → List D → EM D) (σ : Sg) : EM Fl :=
 seqM (bnd (bnd (consM (lk σ 2) (ret [])) fun ds => bf0 .list ds) fun d => ret (.next (put σ 3 d))) (b_law_12 cf)
noncomputable def b_law_14 (cf : Str → List D → EM D) (σ : Sg) : EM Fl :=
 seqM (bnd (bnd (consM (lk σ 2) (consM (lk σ 0) (consM (lk σ 1) (ret [])))) fun ds => cf (Str.ofString "_law_all_spoilt") ds) fun d => ret (.next (put σ 2 d))) (nxt)
noncomputable def b_law_15 (cf : Str → List D → EM D) (σ : Sg) : EM Fl :=
 seqM (ifM (cmpS .Gt (bnd (consM (lk σ 2) (ret [])) fun ds => bf0 .len ds) (ret (.int (0)))) (b_law_14 cf σ) (nxt σ)) (b_law_13 cf)
noncomputable def b_law_16 (cf : Str → List D → EM D) (σ : Sg) : EM Fl :=
 seqM (bnd (bnd (consM (sliS (lk σ 0) (ret (.int (4))) (ret (.int (24)))) (consM (lk σ 1) (ret []))) fun ds => cf (Str.ofString "_law_rows_by") ds) fun d => ret (.next (put σ 2 d))) (b_law_15 cf)
noncomputable def b_law_17 (cf : Str → List D → EM D) (σ : Sg) : EM Fl :=
 seqM (bnd (bnd (consM (lk σ 0) (consM (ret (.int (0))) (ret []))) fun ds => cf (Str.ofString "_law_cell_at") ds) fun d => ret (.next (put σ 1 d))) (b_law_16 cf)
noncomputable def s_law (cf : Str → List D → EM D) (a0 : D) : EM D :=
 finM (b_law_17 cf [some a0, none, none, none, none, none, none, none, none, none, none, none, none, none, none, none, none, none])
theorem e_law (cf : Str → List D → EM D) (a0 : D) : runFn C08 cf (f_law) [a0] = s_law cf a0 := by kernel_rfl
end L08
end Mine
end

section
set_option linter.unusedSimpArgs false
set_option maxRecDepth 100000
set_option maxHeartbeats 1000000
namespace Mine
open PySem

theorem word_ok (ix : MImpl) (cf : Str → List D → EM D) (seed : Int) (n : Nat) (hn : n ≤ 8) (σ : Sg) (h2 : (σ[2]?).join = some (D.str abc)) (h0 : (σ[0]?).join = some (D.int seed)) : ∃ cs : List Nat, cs.length = n ∧ (∀ c ∈ cs, LC c) ∧
    comp0 (ret (.range 0 (n : Int))) (t__law_name_by_5 ix cf σ) = ret (.list (cs.map fun c => D.str (chr1 c))) := by
  obtain ⟨ys, h1, h2, h3⟩ := compL_map (Q := fun y => ∃ c, LC c ∧ y = .str (chr1 c)) (turn := t__law_name_by_5 ix cf σ) (rangeL 0 (n : Int)) (by
    intro d hd
    obtain ⟨j, hj, rfl⟩ := range_mem hd
    obtain ⟨c, hc, e⟩ := letter_at (seed.fdiv 8 + 5 * j + j * j)
    refine ⟨.str (chr1 c), ⟨c, hc, rfl⟩, ?_⟩
    have m1 := mul_ints 5 (j : Int) (by decide) (by omega)
    have m2 := mul_ints (j : Int) (j : Int) (by omega) (by omega)
    unfold t__law_name_by_5
    rw [h2, h0]
    simp only [put0, putS, lk0, lkS, binS_ret, div_ints _ 8 (by decide), m1, m2, add_ints, mod_ints _ 26 (by decide), subS_ret, e]
    rfl)
  obtain ⟨cs, rfl, hcs⟩ := chars_of h2
  refine ⟨cs, ?_, hcs, ?_⟩
  · rw [range_len] at h1; simpa using h1
  · show bnd (optM (itemsOf (.range 0 (n : Int)))) _ = _
    rw [items_range (by omega)]
    show bnd (compL _ (rangeL 0 (n : Int))) _ = _
    rw [h3]; rfl

theorem ar1 {n a sp : Nat} (h : n = 1 + a) : n - (sp + 1) = a - sp := by omega
theorem ar2 {a sp : Nat} (h : sp < 1 + a) (h8 : a < 8) : sp + 1 + (a - sp) ≤ 8 ∧ 1 ≤ sp + 1 + (a - sp) ∧ sp + 1 + (a - sp) ≤ 100 ∧ sp + 1 ≤ 100 := by omega
/-- a right name -/
noncomputable def Nm (x : Str) : Prop := (∀ c ∈ x.cps.toList, LC c) ∧ 1 ≤ x.length ∧ x.length ≤ 8
theorem app_cps (x y : Str) : (x ++ y).cps.toList = x.cps.toList ++ y.cps.toList := by
  show (x.cps ++ y.cps).toList = _
  simp
theorem chr_lc {c2 : Nat} (h : LC c2) : ∀ c ∈ (⟨#[c2]⟩ : Str).cps.toList, LC c := by
  intro c hc
  have : c = c2 := by simpa using hc
  rw [this]; exact h
theorem name_end1 {cs : List Nat} {a c2 : Nat} (hl : cs.length = 1 + a) (hcs : ∀ c ∈ cs, LC c) (hc2 : LC c2) (h8 : 1 + a < 8) : Nm ((⟨cs.toArray⟩ : Str) ++ ⟨#[c2]⟩) := by
  have lw : (⟨cs.toArray⟩ : Str).length = 1 + a := by show cs.toArray.size = _; simp [hl]
  have lc : (⟨#[c2]⟩ : Str).length = 1 := rfl
  refine ⟨fun c hc => ?_, ?_, ?_⟩
  · rw [app_cps] at hc
    rcases List.mem_append.mp hc with q | q
    · exact hcs c q
    · exact chr_lc hc2 c q
  · rw [app_len, lw, lc]; omega
  · rw [app_len, lw, lc]; omega
theorem name_end2 {cs : List Nat} {a sp c2 : Nat} (hl : cs.length = 1 + a) (hcs : ∀ c ∈ cs, LC c) (hc2 : LC c2) (hsp : sp < 1 + a) (ha : a < 8) :
    (⟨(cs.take sp).toArray⟩ : Str).length = sp ∧ (⟨(cs.drop (sp + 1)).toArray⟩ : Str).length = a - sp ∧ Nm ((⟨(cs.take sp).toArray⟩ : Str) ++ ⟨#[c2]⟩ ++ ⟨(cs.drop (sp + 1)).toArray⟩) := by
  have l1 : (⟨(cs.take sp).toArray⟩ : Str).length = sp := by show (cs.take sp).toArray.size = _; simp; omega
  have l2 : (⟨(cs.drop (sp + 1)).toArray⟩ : Str).length = a - sp := by show (cs.drop (sp + 1)).toArray.size = _; rw [List.size_toArray, List.length_drop]; exact ar1 hl
  have lc : (⟨#[c2]⟩ : Str).length = 1 := rfl
  obtain ⟨r1, r2, r3, r4⟩ := ar2 hsp ha
  refine ⟨l1, l2, fun c hc => ?_, ?_, ?_⟩
  · rw [app_cps, app_cps] at hc
    rcases List.mem_append.mp hc with q | q
    · rcases List.mem_append.mp q with q | q
      · exact hcs c (List.mem_of_mem_take q)
      · exact chr_lc hc2 c q
    · exact hcs c (List.mem_of_mem_drop q)
  · rw [app_len, app_len, l1, l2, lc]; exact r2
  · rw [app_len, app_len, l1, l2, lc]; exact r1
/-- what an index method must say of a letter -/
noncomputable def IxOk (ix : MImpl) : Prop := ∀ c, LC c → ∃ k : Nat, methS ix (ret (.str abc)) (ret [.str (chr1 c)]) = ret (.int k)
theorem name_by_ok (ix : MImpl) (hix : IxOk ix) (cf : Str → List D → EM D) (seed : Int) (k : Nat) (hk : k ≤ 10) : ∃ x : Str, s__law_name_by ix cf (.int seed) (.int k) = ret (.str x) ∧ Nm x := by
  obtain ⟨a, ha, ea⟩ := fmod_lit seed 8 8 (by decide) rfl
  have es : (1 : Int) + seed.fmod 8 = ((1 + a : Nat) : Int) := by rw [ea]; omega
  obtain ⟨cs, hl, hcs, hw⟩ := word_ok ix cf seed (1 + a) (by omega) [some (.int seed), some (.int k), some (.str abc), some (.int ((1 + a : Nat) : Int)), none, none, none, none] rfl rfl
  obtain ⟨sp, hsp, esp⟩ := fmod_nat (seed.fdiv 208) (n := 1 + a) (by omega)
  unfold s__law_name_by b__law_name_by_8
  simp only [bnd_ret, seqM_next, put0, putS]
  unfold b__law_name_by_7
  simp only [bnd_ret, seqM_next, put0, putS, lk0, lkS, binS_ret, mod_ints _ 8 (by decide), add_ints, es]
  unfold b__law_name_by_6
  simp only [lk0, lkS, consM_ret, bnd_ret, range1]
  rw [hw, consM_ret, meth_join cs (by omega)]
  simp only [bnd_ret, seqM_next, put0, putS]
  unfold b__law_name_by_4
  simp only [bnd_ret, seqM_next, put0, putS, lk0, lkS, binS_ret, div_ints _ 208 (by decide)]
  rw [mod_ints _ _ (by omega), esp]
  simp only [bnd_ret, seqM_next]
  have hg : (⟨cs.toArray⟩ : Str).cps.toList[sp]? = some cs[sp] := by
    show cs.toArray.toList[sp]? = _
    simp
  have hc : LC cs[sp] := hcs _ (List.getElem_mem (by omega))
  obtain ⟨ik, hik⟩ := hix _ hc
  have hik' : methS ix (ret (.str abc)) (ret [.str ⟨#[cs[sp]]⟩]) = ret (.int ik) := hik
  obtain ⟨b, hb, eb⟩ := fmod_lit (seed.fdiv 1664) 8 8 (by decide) rfl
  obtain ⟨c2, hc2, e2⟩ := letter_at (ik + (k : Int) * (1 + (b : Int)))
  have hm : bin0 .Mult (.int (k : Int)) (.int (1 + (b : Int))) = ret (.int ((k : Int) * (1 + (b : Int)))) := mul_ints _ _ (by rw [Int.natAbs_natCast]; exact Nat.lt_of_le_of_lt hk (by decide)) (by rw [show (1 : Int) + (b : Int) = ((1 + b : Nat) : Int) from rfl, Int.natAbs_natCast]; exact Nat.lt_of_lt_of_le (Nat.add_lt_add_left hb 1) (by decide))
  unfold b__law_name_by_3
  simp only [bnd_ret, seqM_next, put0, putS, lk0, lkS, subS_ret, itemS_at hg, consM_ret, hik', binS_ret, div_ints _ 1664 (by decide), mod_ints _ 8 (by decide), add_ints, eb, hm, mod_ints _ 26 (by decide), e2]
  unfold b__law_name_by_2
  have lw : (⟨cs.toArray⟩ : Str).length = 1 + a := by show cs.toArray.size = _; simp [hl]
  have lc : (⟨#[c2]⟩ : Str).length = 1 := rfl
  simp only [lk0, lkS, cmpS_ret, eq_ints, lt_ints, binS_ret, div_ints _ 13312 (by decide), bnd_ret, mod_ints _ 2 (by decide), andM_rr, Bool.and_true]
  cases tt : (((k : Int) == 2) && ((((seed.fdiv 13312).fmod 2) == 1) && decide (((1 + a : Nat) : Int) < 8))) with
  | true =>
    have h8 : 1 + a < 8 := by
      exact Int.ofNat_lt.mp (of_decide_eq_true (Bool.and_eq_true_iff.mp (Bool.and_eq_true_iff.mp tt).2).2)
    unfold b__law_name_by_1
    simp only [ifM_true, lk0, lkS, binS_ret]
    rw [add_strs _ _ (by rw [lw, lc]; omega)]
    exact ⟨_, rfl, name_end1 hl hcs hc2 h8⟩
  | false =>
    obtain ⟨l1, l2, hN⟩ := name_end2 hl hcs hc2 hsp ha
    obtain ⟨r1, r2, r3, r4⟩ := ar2 hsp ha
    have ey1 : sli0 (.str ⟨cs.toArray⟩) .none (.int sp) = ret (.str ⟨(cs.take sp).toArray⟩) := by
      show ret (D.str ⟨(cut none (some (sp : Int)) cs.toArray.toList).toArray⟩) = _
      rw [cut_to (show sp ≤ cs.length by omega)]
    have ey2 : sli0 (.str ⟨cs.toArray⟩) (.int ((sp : Int) + 1)) .none = ret (.str ⟨(cs.drop (sp + 1)).toArray⟩) := by
      show ret (D.str ⟨(cut (some ((sp + 1 : Nat) : Int)) none cs.toArray.toList).toArray⟩) = _
      rw [cut_from (show sp + 1 ≤ cs.length by omega)]
    unfold b__law_name_by_0 nxt
    simp only [ifM_false, seqM_next, lk0, lkS, sliS_ret, ey1, binS_ret, add_ints, ey2]
    rw [add_strs _ _ (by rw [l1, lc]; exact r4), binS_ret, add_strs _ _ (by rw [app_len, l1, l2, lc]; exact r3)]
    exact ⟨_, rfl, hN⟩
end Mine
end

section
set_option linter.unusedSimpArgs false
set_option maxRecDepth 100000
set_option maxHeartbeats 1000000
namespace Mine
open PySem

theorem andV_rr (a b : Bool) : andV (ret (.bool a)) (ret (.bool b)) = ret (.bool (a && b)) := by cases a <;> rfl
theorem orV_rr (a b : Bool) : orV (ret (.bool a)) (ret (.bool b)) = ret (.bool (a || b)) := by cases a <;> rfl
theorem cmp_eq (a b : D) : cmpM .Eq a b = eqM a b := rfl
theorem cmp_ne (a b : D) : cmpM .NotEq a b = bnd (eqM a b) fun c => ret (!c) := rfl
/-- a for that looks for the first that fails, over coded things -/
theorem forL_enc {α : Type} {f : α → D} {body : D → Sg → EM Fl} {p : α → Bool} {r : D} (I : Sg → Prop) : ∀ (l : List α), (∀ a ∈ l, ∀ σ, I σ → (p a = true ∧ ∃ σ', I σ' ∧ body (f a) σ = ret (.next σ')) ∨ (p a = false ∧ body (f a) σ = ret (.ret r))) →
    ∀ σ, I σ → (l.all p = true ∧ ∃ σ', I σ' ∧ forL body (l.map f) σ = ret (.next σ')) ∨ (l.all p = false ∧ forL body (l.map f) σ = ret (.ret r))
  | [], _, σ, hσ => .inl ⟨rfl, σ, hσ, rfl⟩
  | d :: ds, h, σ, hσ => by
    have q : forL body ((d :: ds).map f) σ = bnd (calm (body (f d) σ)) fun x => match x with
      | .next σ' => forL body (ds.map f) σ'
      | .ret v => ret (.ret v) := rfl
    rw [q]
    rcases h d (List.mem_cons_self ..) σ hσ with ⟨h1, σ', h2, h3⟩ | ⟨h1, h3⟩
    · rw [h3, calm_ret, bnd_ret, List.all_cons, h1, Bool.true_and]
      exact forL_enc I ds (fun x hx => h x (List.mem_cons_of_mem _ hx)) σ' h2
    · right
      rw [h3, calm_ret, bnd_ret, List.all_cons, h1, Bool.false_and]
      exact ⟨rfl, rfl⟩
theorem compL_enc {α : Type} {f : α → D} {g : α → D} {turn : D → EM (Option D)} : ∀ l : List α, (∀ a ∈ l, turn (f a) = ret (some (g a))) → compL turn (l.map f) = ret (l.map g)
  | [], _ => rfl
  | d :: ds, h => by
    have q : compL turn ((d :: ds).map f) = bnd (turn (f d)) fun x => bnd (compL turn (ds.map f)) fun ys => ret (match x with
      | some y => y :: ys
      | none => ys) := rfl
    rw [q, h d (List.mem_cons_self ..), bnd_ret, compL_enc ds fun x hx => h x (List.mem_cons_of_mem _ hx), bnd_ret]
    rfl
theorem bools_map {α : Type} (p : α → Bool) (l : List α) : boolsOf (l.map fun a => D.bool (p a)) = some (l.map p) := by
  induction l with
  | nil => rfl
  | cons a l ih => rw [List.map_cons, List.map_cons]; unfold boolsOf; rw [ih]
theorem all_map {α : Type} (p : α → Bool) (l : List α) : bf0 .all [.list (l.map fun a => D.bool (p a))] = ret (.bool (l.all p)) := by
  funext S
  show optM ((boolsOf (l.map fun a => D.bool (p a))).map fun bs => D.bool (bs.all id)) S = _
  rw [bools_map]
  show Out.ok _ S = Out.ok _ S
  congr 2
  simp

noncomputable def hd : Sx → Str
  | .nm _ => Str.ofString "name"
  | .fls => Str.ofString "false"
  | .bin w _ _ => w.s
theorem sit0 (s : Sx) : itemM (enc s) (.int 0) = ret (.str (hd s)) := by cases s <;> rfl
theorem sit1 (w : W3) (p q : Sx) : itemM (enc (.bin w p q)) (.int 1) = ret (enc p) := rfl
theorem sit2 (w : W3) (p q : Sx) : itemM (enc (.bin w p q)) (.int 2) = ret (enc q) := rfl
theorem hd_is (s : Sx) (w : W3) : (hd s == w.s) = isW w s := by
  cases s with
  | nm x => cases w <;> rfl
  | fls => cases w <;> rfl
  | bin v p q => cases v <;> cases w <;> rfl
theorem hd_a (s : Sx) : (hd s == Str.ofString "and") = isW .a s := hd_is s .a
theorem hd_o (s : Sx) : (hd s == Str.ofString "or") = isW .o s := hd_is s .o
theorem hd_t (s : Sx) : (hd s == Str.ofString "then") = isW .t s := hd_is s .t
theorem isW_inv {w : W3} {s : Sx} (h : isW w s = true) : s = .bin w (pt1 s) (pt2 s) := by
  cases s with
  | bin v p q => have : v = w := of_decide_eq_true h
                 rw [this]; rfl
  | _ => cases h
theorem row0 (r : Rw) : itemM (encR r) (.int 0) = ret (.tuple (r.g.map enc)) := rfl
theorem row1 (r : Rw) : itemM (encR r) (.int 1) = ret (enc r.s) := rfl
theorem row2 (r : Rw) : itemM (encR r) (.int 2) = ret (.str r.r) := rfl
theorem row3 (r : Rw) : itemM (encR r) (.int 3) = ret (.tuple (r.u.map .int)) := rfl
theorem it0 (a : D) (l : List D) : itemM (.list (a :: l)) (.int 0) = ret a := itemL_at (k := 0) rfl
theorem it1 (a b : D) (l : List D) : itemM (.list (a :: b :: l)) (.int 1) = ret b := itemL_at (k := 1) rfl
theorem it2 (a b c : D) (l : List D) : itemM (.list (a :: b :: c :: l)) (.int 2) = ret c := itemL_at (k := 2) rfl
theorem ru_eq (c d : Ru) : (c.s == d.s) = decide (c = d) := by cases c <;> cases d <;> decide +kernel

theorem are_among_ok (cf : Str → List D → EM D) (l g m : List Sx) (h : ∀ x ∈ l, x.dep ≤ 500) : s_are_among cf (.tuple (l.map enc)) (.tuple (g.map enc)) (.tuple (m.map enc)) = ret (.bool (amg l g m)) := by
  unfold s_are_among b_are_among_3
  show finM (seqM (forL (fun d σ => b_are_among_2 cf (put σ 3 d)) (l.map enc) [some (.tuple (l.map enc)), some (.tuple (g.map enc)), some (.tuple (m.map enc)), none]) (b_are_among_0 cf)) = _
  have := forL_enc (f := enc) (body := fun d σ => b_are_among_2 cf (put σ 3 d)) (p := fun x => decide (x ∈ g) || decide (x ∈ m)) (r := .bool false) (fun σ => ∃ o, σ = [some (.tuple (l.map enc)), some (.tuple (g.map enc)), some (.tuple (m.map enc)), o]) l (fun x hx σ hσ => by
    obtain ⟨o, rfl⟩ := hσ
    have e : b_are_among_2 cf (put [some (.tuple (l.map enc)), some (.tuple (g.map enc)), some (.tuple (m.map enc)), o] 3 (enc x)) = seqM (ifM (ret (!decide (x ∈ g) && !decide (x ∈ m))) (ret (.ret (.bool false))) (ret (.next [some (.tuple (l.map enc)), some (.tuple (g.map enc)), some (.tuple (m.map enc)), some (enc x)]))) nxt := by
      unfold b_are_among_2
      simp only [put0, putS, lk0, lkS, cmpS_ret, nin_tup x _ (h x hx), andM_rr, Bool.and_true]
      rfl
    show (_ ∧ ∃ σ', _ ∧ b_are_among_2 cf (put _ 3 (enc x)) = _) ∨ (_ ∧ b_are_among_2 cf (put _ 3 (enc x)) = _)
    rw [e]
    cases decide (x ∈ g) with
    | true => exact .inl ⟨rfl, _, ⟨_, rfl⟩, rfl⟩
    | false =>
      cases decide (x ∈ m) with
      | true => exact .inl ⟨rfl, _, ⟨_, rfl⟩, rfl⟩
      | false => exact .inr ⟨rfl, rfl⟩) _ ⟨none, rfl⟩
  unfold amg
  rcases this with ⟨e, σ', _, q⟩ | ⟨e, q⟩
  · rw [q, e]; rfl
  · rw [q, e]; rfl

structure CfA (cf : Str → List D → EM D) : Prop where
  am : ∀ l g m : List Sx, (∀ x ∈ l, x.dep ≤ 500) → cf (Str.ofString "are_among") [.tuple (l.map enc), .tuple (g.map enc), .tuple (m.map enc)] = ret (.bool (amg l g m))
theorem CfA.am0 {cf : Str → List D → EM D} (h : CfA cf) (r : Rw) (g : List Sx) (hr : RwOk r) : cf (Str.ofString "are_among") [.tuple (r.g.map enc), .tuple (g.map enc), .tuple []] = ret (.bool (amg r.g g [])) :=
  h.am r.g g [] fun x hx => Nat.le_trans (hr.g x hx) (by decide)
theorem is_from_ok {cf : Str → List D → EM D} (h : CfA cf) (r : Rw) (g : List Sx) (st : Sx) (m : List Sx) (hr : RwOk r) : s_is_from cf (encR r) (.tuple (g.map enc)) (enc st) (.tuple (m.map enc)) = ret (.bool (frm r g st m)) := by
  unfold s_is_from b_is_from_0
  simp only [lk0, lkS, subS_ret, row0, row1, cmpB_ret, cmp_eq, eq_enc _ _ (.inl (Nat.le_trans hr.s (by decide))), bnd_ret, consM_ret, callN_ret, h.am r.g g m fun x hx => Nat.le_trans (hr.g x hx) (by decide), calm_ret, andV_rr]
  rfl
theorem is_joined_ok {cf : Str → List D → EM D} (h : CfA cf) (r : Rw) (g : List Sx) (w : W3) (part : Sx) (hr : RwOk r) :
    s_is_joined cf (encR r) (.tuple (g.map enc)) (.str w.s) (.int 1) (enc part) = ret (.bool (isW w r.s && (decide (pt1 r.s = part) && amg r.g g []))) ∧
    s_is_joined cf (encR r) (.tuple (g.map enc)) (.str w.s) (.int 2) (enc part) = ret (.bool (isW w r.s && (decide (pt2 r.s = part) && amg r.g g []))) := by
  have a0 := h.am0 r g hr
  have hs := hr.s
  obtain ⟨rg, rs, rr, ru⟩ := r
  constructor
  · unfold s_is_joined b_is_joined_0
    simp only [lk0, lkS, subS_ret, row0, row1, sit0, cmpB_ret, cmp_eq, eqM_str, hd_is, bnd_ret]
    cases hw : isW w rs with
    | false => rfl
    | true =>
      have e := isW_inv hw
      have hd : (pt1 rs).dep ≤ 500 := by
        rw [e] at hs
        have : max (pt1 rs).dep (pt2 rs).dep + 1 ≤ 50 := hs
        omega
      have i1 : itemM (enc rs) (.int 1) = ret (enc (pt1 rs)) := by rw [e]; rfl
      simp only [i1, cmpB_ret, cmp_eq, eq_enc _ _ (.inl hd), bnd_ret, tup0, consM_ret, callN_ret, a0, calm_ret, andV_rr]
      rfl
  · unfold s_is_joined b_is_joined_0
    simp only [lk0, lkS, subS_ret, row0, row1, sit0, cmpB_ret, cmp_eq, eqM_str, hd_is, bnd_ret]
    cases hw : isW w rs with
    | false => rfl
    | true =>
      have e := isW_inv hw
      have hd : (pt2 rs).dep ≤ 500 := by
        rw [e] at hs
        have : max (pt1 rs).dep (pt2 rs).dep + 1 ≤ 50 := hs
        omega
      have i1 : itemM (enc rs) (.int 2) = ret (enc (pt2 rs)) := by rw [e]; rfl
      simp only [i1, cmpB_ret, cmp_eq, eq_enc _ _ (.inl hd), bnd_ret, tup0, consM_ret, callN_ret, a0, calm_ret, andV_rr]
      rfl
end Mine
end

section
set_option linter.unusedSimpArgs false
set_option maxRecDepth 100000
set_option maxHeartbeats 1000000
namespace Mine
open PySem

structure CfB (cf : Str → List D → EM D) : Prop extends CfA cf where
  fr : ∀ r g st m, RwOk r → cf (Str.ofString "is_from") [encR r, .tuple (g.map enc), enc st, .tuple (m.map enc)] = ret (.bool (frm r g st m))
  j1 : ∀ r g w part, RwOk r → cf (Str.ofString "is_joined") [encR r, .tuple (g.map enc), .str (W3.s w), .int 1, enc part] = ret (.bool (isW w r.s && (decide (pt1 r.s = part) && amg r.g g [])))
  j2 : ∀ r g w part, RwOk r → cf (Str.ofString "is_joined") [encR r, .tuple (g.map enc), .str (W3.s w), .int 2, enc part] = ret (.bool (isW w r.s && (decide (pt2 r.s = part) && amg r.g g [])))
section
variable {cf : Str → List D → EM D} (h : CfB cf)
include h
theorem CfB.fr0 (r : Rw) (g : List Sx) (st : Sx) (hr : RwOk r) : cf (Str.ofString "is_from") [encR r, .tuple (g.map enc), enc st, .tuple []] = ret (.bool (frm r g st [])) := h.fr r g st [] hr
theorem CfB.fr1 (r : Rw) (g : List Sx) (st m : Sx) (hr : RwOk r) : cf (Str.ofString "is_from") [encR r, .tuple (g.map enc), enc st, .tuple [enc m]] = ret (.bool (frm r g st [m])) := h.fr r g st [m] hr
theorem is_shared_ok (a b c : Rw) (g : List Sx) (s : Sx) (ha : RwOk a) (hb : RwOk b) (hc : RwOk c) :
    s_is_shared cf (.list [encR a, encR b, encR c]) (.tuple (g.map enc)) (enc s) = ret (.bool (isW .o a.s && (amg a.g g [] && (frm b g s [pt1 a.s] && frm c g s [pt2 a.s])))) := by
  unfold s_is_shared b_is_shared_5
  simp only [lk0, lkS, subS_ret, it0, bnd_ret, put0, putS, seqM_next]
  unfold b_is_shared_4
  simp only [lk0, lkS, subS_ret, row0, row1, sit0, cmpS_ret, cmp_ne, eqM_str, hd_o, bnd_ret, tup0, consM_ret, callN_ret, h.am0 a g ha, calm_ret, truth_bool, notM_ret, orM_rr, Bool.or_false]
  cases hw : isW .o a.s with
  | false => rfl
  | true =>
    cases hm : amg a.g g [] with
    | false => rfl
    | true =>
      have e := isW_inv hw
      have i1 : itemM (enc a.s) (.int 1) = ret (enc (pt1 a.s)) := by rw [e]; rfl
      have i2 : itemM (enc a.s) (.int 2) = ret (enc (pt2 a.s)) := by rw [e]; rfl
      show finM (seqM (nxt _) (b_is_shared_2 cf)) = _
      show finM (b_is_shared_2 cf _) = _
      unfold b_is_shared_2
      simp only [lk0, lkS, subS_ret, row1, it1, it2, i1, i2, consM_ret, tup1, callN_ret, h.fr1 _ _ _ _ hb, calm_ret, bnd_ret, truth_bool, notM_ret]
      cases frm b g s [pt1 a.s] with
      | false => rfl
      | true =>
        show finM (b_is_shared_0 cf _) = _
        unfold b_is_shared_0
        simp only [lk0, lkS, subS_ret, row1, it1, it2, i1, i2, consM_ret, tup1, h.fr1 _ _ _ _ hc, bnd_ret]
        rfl
theorem is_made_ok (g : List Sx) (s : Sx) (c : Ru) (ups : List Rw) (hu : ∀ r ∈ ups, RwOk r) (hc : c = .both ∨ c = .suppose ∨ c = .one ∨ c = .other) (hl : ups.length = c.cnt) :
    s_is_made cf (.tuple (g.map enc)) (enc s) (.str c.s) (.list (ups.map encR)) = ret (.bool (ruled g s c ups)) := by
  have q1 := ru_eq c .both
  have q2 := ru_eq c .suppose
  rcases hc with rfl | rfl | rfl | rfl
  · obtain ⟨a, b, rfl⟩ : ∃ a b, ups = [a, b] := by
      rcases ups with _ | ⟨a, _ | ⟨b, _ | ⟨d, l⟩⟩⟩
      · cases hl
      · cases hl
      · exact ⟨a, b, rfl⟩
      · cases hl
    have ha := hu a (by simp)
    have hb := hu b (by simp)
    unfold s_is_made b_is_made_7
    simp only [lk0, lkS, cmpS_ret, cmp_eq, eqM_str]
    show finM (seqM (b_is_made_6 cf [some (.tuple (g.map enc)), some (enc s), some (.str Ru.both.s), some (.list [encR a, encR b]), none, none]) (b_is_made_3 cf)) = _
    unfold b_is_made_6
    simp only [lk0, lkS, subS_ret, sit0, cmpS_ret, cmp_ne, eqM_str, hd_a, bnd_ret]
    cases hw : isW .a s with
    | false =>
      show _ = ret (D.bool (isW .a s && (frm a g (pt1 s) [] && frm b g (pt2 s) [])))
      rw [hw]; rfl
    | true =>
      have e := isW_inv hw
      have i1 : itemM (enc s) (.int 1) = ret (enc (pt1 s)) := by rw [e]; rfl
      have i2 : itemM (enc s) (.int 2) = ret (enc (pt2 s)) := by rw [e]; rfl
      show finM (seqM (b_is_made_4 cf _) (b_is_made_3 cf)) = ret (.bool (isW .a s && (frm a g (pt1 s) [] && frm b g (pt2 s) [])))
      rw [hw]
      unfold b_is_made_4
      simp only [lk0, lkS, subS_ret, it0, it1, i1, i2, consM_ret, tup0, callN_ret, h.fr0 _ _ _ ha, h.fr0 _ _ _ hb, calm_ret, andV_rr, bnd_ret]
      rfl
  · obtain ⟨a, rfl⟩ : ∃ a, ups = [a] := by
      rcases ups with _ | ⟨a, _ | ⟨b, l⟩⟩
      · cases hl
      · exact ⟨a, rfl⟩
      · cases hl
    have ha := hu a (by simp)
    unfold s_is_made b_is_made_7
    simp only [lk0, lkS, cmpS_ret, cmp_eq, eqM_str]
    show finM (b_is_made_3 cf [some (.tuple (g.map enc)), some (enc s), some (.str Ru.suppose.s), some (.list [encR a]), none, none]) = _
    unfold b_is_made_3
    simp only [lk0, lkS, cmpS_ret, cmp_eq, eqM_str]
    show finM (seqM (b_is_made_2 cf [some (.tuple (g.map enc)), some (enc s), some (.str Ru.suppose.s), some (.list [encR a]), none, none]) (b_is_made_1 cf)) = ret (.bool (isW .t s && frm a g (pt2 s) [pt1 s]))
    unfold b_is_made_2
    simp only [lk0, lkS, subS_ret, sit0, cmpB_ret, cmp_eq, eqM_str, hd_t, bnd_ret]
    cases hw : isW .t s with
    | false => rfl
    | true =>
      have e := isW_inv hw
      have i1 : itemM (enc s) (.int 1) = ret (enc (pt1 s)) := by rw [e]; rfl
      have i2 : itemM (enc s) (.int 2) = ret (enc (pt2 s)) := by rw [e]; rfl
      simp only [it0, i1, i2, consM_ret, tup1, callN_ret, h.fr1 _ _ _ _ ha, calm_ret, andV_rr, bnd_ret]
      rfl
  · obtain ⟨a, rfl⟩ : ∃ a, ups = [a] := by
      rcases ups with _ | ⟨a, _ | ⟨b, l⟩⟩
      · cases hl
      · exact ⟨a, rfl⟩
      · cases hl
    have ha := hu a (by simp)
    unfold s_is_made b_is_made_7
    simp only [lk0, lkS, cmpS_ret, cmp_eq, eqM_str]
    show finM (b_is_made_3 cf [some (.tuple (g.map enc)), some (enc s), some (.str Ru.one.s), some (.list [encR a]), none, none]) = _
    unfold b_is_made_3
    simp only [lk0, lkS, cmpS_ret, cmp_eq, eqM_str]
    show finM (b_is_made_1 cf [some (.tuple (g.map enc)), some (enc s), some (.str Ru.one.s), some (.list [encR a]), none, none]) = ret (.bool (isW .o s && frm a g (pt1 s) []))
    unfold b_is_made_1
    have dd : itemM (.dict [((Str.ofString "one"), .int (1)), ((Str.ofString "other"), .int (2))]) (.str Ru.one.s) = ret (.int 1) := rfl
    simp only [lk0, lkS, subS_ret, dd, bnd_ret, put0, putS, seqM_next]
    unfold b_is_made_0
    simp only [lk0, lkS, subS_ret, sit0, cmpB_ret, cmp_eq, eqM_str, hd_o, bnd_ret]
    cases hw : isW .o s with
    | false => rfl
    | true =>
      have e := isW_inv hw
      have i1 : itemM (enc s) (.int 1) = ret (enc (pt1 s)) := by rw [e]; rfl
      simp only [it0, i1, consM_ret, tup0, callN_ret, h.fr0 _ _ _ ha, calm_ret, andV_rr, bnd_ret]
      rfl
  · obtain ⟨a, rfl⟩ : ∃ a, ups = [a] := by
      rcases ups with _ | ⟨a, _ | ⟨b, l⟩⟩
      · cases hl
      · exact ⟨a, rfl⟩
      · cases hl
    have ha := hu a (by simp)
    unfold s_is_made b_is_made_7
    simp only [lk0, lkS, cmpS_ret, cmp_eq, eqM_str]
    show finM (b_is_made_3 cf [some (.tuple (g.map enc)), some (enc s), some (.str Ru.other.s), some (.list [encR a]), none, none]) = _
    unfold b_is_made_3
    simp only [lk0, lkS, cmpS_ret, cmp_eq, eqM_str]
    show finM (b_is_made_1 cf [some (.tuple (g.map enc)), some (enc s), some (.str Ru.other.s), some (.list [encR a]), none, none]) = ret (.bool (isW .o s && frm a g (pt2 s) []))
    unfold b_is_made_1
    have dd : itemM (.dict [((Str.ofString "one"), .int (1)), ((Str.ofString "other"), .int (2))]) (.str Ru.other.s) = ret (.int 2) := rfl
    simp only [lk0, lkS, subS_ret, dd, bnd_ret, put0, putS, seqM_next]
    unfold b_is_made_0
    simp only [lk0, lkS, subS_ret, sit0, cmpB_ret, cmp_eq, eqM_str, hd_o, bnd_ret]
    cases hw : isW .o s with
    | false => rfl
    | true =>
      have e := isW_inv hw
      have i2 : itemM (enc s) (.int 2) = ret (enc (pt2 s)) := by rw [e]; rfl
      simp only [it0, i2, consM_ret, tup0, callN_ret, h.fr0 _ _ _ ha, calm_ret, andV_rr, bnd_ret]
      rfl
end
end Mine
end

section
set_option linter.unusedSimpArgs false
set_option maxRecDepth 100000
set_option maxHeartbeats 1000000
namespace Mine
open PySem

structure CfC (cf : Str → List D → EM D) : Prop extends CfB cf where
  sh : ∀ a b c g s, RwOk a → RwOk b → RwOk c → cf (Str.ofString "is_shared") [.list [encR a, encR b, encR c], .tuple (g.map enc), enc s] = ret (.bool (isW .o a.s && (amg a.g g [] && (frm b g s [pt1 a.s] && frm c g s [pt2 a.s]))))
  md : ∀ (g : List Sx) (s : Sx) (c : Ru) (ups : List Rw), (∀ r ∈ ups, RwOk r) → (c = .both ∨ c = .suppose ∨ c = .one ∨ c = .other) → ups.length = c.cnt → cf (Str.ofString "is_made") [.tuple (g.map enc), enc s, .str c.s, .list (ups.map encR)] = ret (.bool (ruled g s c ups))
theorem ups0 {ups : List Rw} (h : ups.length = 0) : ups = [] := List.length_eq_zero_iff.mp h
theorem ups1 {ups : List Rw} (h : ups.length = 1) : ∃ a, ups = [a] := by
  rcases ups with _ | ⟨a, _ | ⟨b, l⟩⟩
  · cases h
  · exact ⟨a, rfl⟩
  · cases h
theorem ups2 {ups : List Rw} (h : ups.length = 2) : ∃ a b, ups = [a, b] := by
  rcases ups with _ | ⟨a, _ | ⟨b, _ | ⟨d, l⟩⟩⟩
  · cases h
  · cases h
  · exact ⟨a, b, rfl⟩
  · cases h
theorem ups3 {ups : List Rw} (h : ups.length = 3) : ∃ a b c, ups = [a, b, c] := by
  rcases ups with _ | ⟨a, _ | ⟨b, _ | ⟨d, _ | ⟨e, l⟩⟩⟩⟩
  · cases h
  · cases h
  · cases h
  · exact ⟨a, b, d, rfl⟩
  · cases h
/-- the first three looks: which rule is it -/
noncomputable abbrev sgR (g : List Sx) (s : Sx) (c : Ru) (ups : List D) : Sg := [some (.tuple (g.map enc)), some (enc s), some (.str c.s), some (.list ups), none, none, none, none]
section
variable {cf : Str → List D → EM D}
theorem go10 (g : List Sx) (s : Sx) (c : Ru) (ups : List D) (hc : c ≠ .given) : s_is_ruled cf (.tuple (g.map enc)) (enc s) (.str c.s) (.list ups) = finM (b_is_ruled_10 cf (sgR g s c ups)) := by
  unfold s_is_ruled b_is_ruled_12
  simp only [lk0, lkS, cmpS_ret, cmp_eq, eqM_str, show (c.s == Str.ofString "given") = decide (c = .given) from ru_eq c .given, decide_eq_false hc]
  rfl
theorem go8 (g : List Sx) (s : Sx) (c : Ru) (ups : List D) (hc : c = .left ∨ c = .right ∨ c = .cases ∨ c = .onward ∨ c = .any) : s_is_ruled cf (.tuple (g.map enc)) (enc s) (.str c.s) (.list ups) = finM (b_is_ruled_8 cf (sgR g s c ups)) := by
  rw [go10 g s c ups (by rintro rfl; simp at hc)]
  unfold b_is_ruled_10
  rcases hc with rfl | rfl | rfl | rfl | rfl <;> rfl
theorem go6 (g : List Sx) (s : Sx) (c : Ru) (ups : List D) (hc : c = .right ∨ c = .cases ∨ c = .onward ∨ c = .any) : s_is_ruled cf (.tuple (g.map enc)) (enc s) (.str c.s) (.list ups) = finM (b_is_ruled_6 cf (sgR g s c ups)) := by
  rw [go8 g s c ups (.inr hc)]
  unfold b_is_ruled_8
  rcases hc with rfl | rfl | rfl | rfl <;> rfl
theorem go4 (g : List Sx) (s : Sx) (c : Ru) (ups : List D) (hc : c = .cases ∨ c = .onward ∨ c = .any) : s_is_ruled cf (.tuple (g.map enc)) (enc s) (.str c.s) (.list ups) = finM (b_is_ruled_4 cf (sgR g s c ups)) := by
  rw [go6 g s c ups (.inr hc)]
  unfold b_is_ruled_6
  rcases hc with rfl | rfl | rfl <;> rfl
theorem go2 (g : List Sx) (s : Sx) (c : Ru) (ups : List D) (hc : c = .onward ∨ c = .any) : s_is_ruled cf (.tuple (g.map enc)) (enc s) (.str c.s) (.list ups) = finM (b_is_ruled_2 cf (sgR g s c ups)) := by
  rw [go4 g s c ups (.inr hc)]
  unfold b_is_ruled_4
  rcases hc with rfl | rfl <;> rfl
variable (h : CfC cf)
include h
theorem is_ruled_ok (g : List Sx) (s : Sx) (c : Ru) (ups : List Rw) (hs : s.dep ≤ 50) (hu : ∀ r ∈ ups, RwOk r) (hl : ups.length = c.cnt) :
    s_is_ruled cf (.tuple (g.map enc)) (enc s) (.str c.s) (.list (ups.map encR)) = ret (.bool (ruled g s c ups)) := by
  have made : ∀ c : Ru, (c = .both ∨ c = .suppose ∨ c = .one ∨ c = .other) → ups.length = c.cnt → s_is_ruled cf (.tuple (g.map enc)) (enc s) (.str c.s) (.list (ups.map encR)) = ret (.bool (ruled g s c ups)) := by
    intro c hc hl
    have m := h.md g s c ups hu hc hl
    rw [go10 g s c _ (by rintro rfl; simp at hc)]
    have e : finM (b_is_ruled_10 cf (sgR g s c (ups.map encR))) = finM (seqM (b_is_ruled_9 cf (sgR g s c (ups.map encR))) (b_is_ruled_8 cf)) := by
      unfold b_is_ruled_10
      rcases hc with rfl | rfl | rfl | rfl <;> rfl
    rw [e]
    unfold b_is_ruled_9
    simp only [lk0, lkS, consM_ret, bnd_ret, m]
    rfl
  cases c with
  | given =>
    obtain rfl := ups0 hl
    unfold s_is_ruled b_is_ruled_12
    simp only [lk0, lkS, cmpS_ret, cmp_eq, eqM_str]
    show finM (seqM (b_is_ruled_11 cf (sgR g s .given [])) (b_is_ruled_10 cf)) = _
    unfold b_is_ruled_11
    simp only [lk0, lkS, cmpB_ret, in_tup s g (Nat.le_trans hs (by decide)), bnd_ret]
    rfl
  | both => exact made .both (.inl rfl) hl
  | suppose => exact made .suppose (.inr (.inl rfl)) hl
  | one => exact made .one (.inr (.inr (.inl rfl))) hl
  | other => exact made .other (.inr (.inr (.inr rfl))) hl
  | left =>
    obtain ⟨a, rfl⟩ := ups1 hl
    rw [go8 g s .left _ (.inl rfl)]
    unfold b_is_ruled_8
    show finM (seqM (b_is_ruled_7 cf (sgR g s .left [encR a])) (b_is_ruled_6 cf)) = ret (.bool (isW .a a.s && (decide (pt1 a.s = s) && amg a.g g [])))
    unfold b_is_ruled_7
    simp only [lk0, lkS, subS_ret, it0, consM_ret, bnd_ret, show cf (Str.ofString "is_joined") [encR a, .tuple (g.map enc), .str (Str.ofString "and"), .int 1, enc s] = _ from h.j1 a g .a s (hu a (by simp))]
    rfl
  | right =>
    obtain ⟨a, rfl⟩ := ups1 hl
    rw [go6 g s .right _ (.inl rfl)]
    unfold b_is_ruled_6
    show finM (seqM (b_is_ruled_5 cf (sgR g s .right [encR a])) (b_is_ruled_4 cf)) = ret (.bool (isW .a a.s && (decide (pt2 a.s = s) && amg a.g g [])))
    unfold b_is_ruled_5
    simp only [lk0, lkS, subS_ret, it0, consM_ret, bnd_ret, show cf (Str.ofString "is_joined") [encR a, .tuple (g.map enc), .str (Str.ofString "and"), .int 2, enc s] = _ from h.j2 a g .a s (hu a (by simp))]
    rfl
  | cases =>
    obtain ⟨a, b, d, rfl⟩ := ups3 hl
    rw [go4 g s .cases _ (.inl rfl)]
    unfold b_is_ruled_4
    show finM (seqM (b_is_ruled_3 cf (sgR g s .cases [encR a, encR b, encR d])) (b_is_ruled_2 cf)) = _
    unfold b_is_ruled_3
    simp only [lk0, lkS, consM_ret, bnd_ret, h.sh a b d g s (hu a (by simp)) (hu b (by simp)) (hu d (by simp))]
    rfl
  | onward =>
    obtain ⟨a, b, rfl⟩ := ups2 hl
    have ha := hu a (by simp)
    have hb := hu b (by simp)
    rw [go2 g s .onward _ (.inl rfl)]
    unfold b_is_ruled_2
    show finM (seqM (b_is_ruled_1 cf (sgR g s .onward [encR a, encR b])) (b_is_ruled_0 cf)) = ret (.bool (isW .t a.s && (decide (pt2 a.s = s) && (amg a.g g [] && frm b g (pt1 a.s) []))))
    unfold b_is_ruled_1
    simp only [lk0, lkS, subS_ret, it0, it1, row1, consM_ret, callN_ret, calm_ret, show cf (Str.ofString "is_joined") [encR a, .tuple (g.map enc), .str (Str.ofString "then"), .int 2, enc s] = _ from h.j2 a g .t s ha]
    cases hw : isW .t a.s with
    | false => rfl
    | true =>
      have e := isW_inv hw
      have i1 : itemM (enc a.s) (.int 1) = ret (enc (pt1 a.s)) := by rw [e]; rfl
      simp only [i1, tup0, consM_ret, callN_ret, h.fr0 _ _ _ hb, calm_ret, andV_rr, bnd_ret, Bool.true_and, Bool.and_assoc]
      rfl
  | any =>
    obtain ⟨a, rfl⟩ := ups1 hl
    rw [go2 g s .any _ (.inr rfl)]
    unfold b_is_ruled_2
    show finM (b_is_ruled_0 cf (sgR g s .any [encR a])) = ret (.bool (frm a g .fls []))
    unfold b_is_ruled_0
    simp only [lk0, lkS, subS_ret, it0, tup0, tup1, consM_ret, bnd_ret, show cf (Str.ofString "is_from") [encR a, .tuple (g.map enc), .tuple [.str (Str.ofString "false")], .tuple []] = _ from h.fr0 a g .fls (hu a (by simp))]
    rfl
end
end Mine
end

section
set_option linter.unusedSimpArgs false
set_option maxRecDepth 100000
set_option maxHeartbeats 1000000
namespace Mine
open PySem

/-- among what may be supposed: a tuple or a list -/
noncomputable def SupIs (sup : D) (m : List Sx) : Prop := ∀ a : Sx, a.dep ≤ 500 → cmpM .In (enc a) sup = ret (decide (a ∈ m))
theorem sup0 : SupIs (.tuple []) [] := fun a h => in_tup a [] h
theorem sup1 (x : Sx) : SupIs (.list [enc x]) [x] := fun a h => in_lst a [x] h
theorem law_from_ok (cf : Str → List D → EM D) (r : Rw) (g : List Sx) (st : Sx) (m : List Sx) (sup : D) (hm : SupIs sup m) (hr : RwOk r) : s__law_from cf (encR r) (.tuple (g.map enc)) (enc st) sup = ret (.bool (frm r g st m)) := by
  unfold s__law_from b__law_from_1
  have c : comp0 (ret (.tuple (r.g.map enc))) (t__law_from_0 cf [some (encR r), some (.tuple (g.map enc)), some (enc st), some sup, none]) = ret (.list (r.g.map fun x => D.bool (decide (x ∈ g) || decide (x ∈ m)))) := by
    show bnd (compL _ (r.g.map enc)) (fun ys => mkList cfg0 pos0 ys) = _
    rw [compL_enc (g := fun x => D.bool (decide (x ∈ g) || decide (x ∈ m))) r.g fun x hx => ?_]
    · rfl
    · have hx' : x.dep ≤ 500 := Nat.le_trans (hr.g x hx) (by decide)
      unfold t__law_from_0
      show turnS (ret true) (orV (cmpB .In (ret (enc x)) (ret (.tuple (g.map enc)))) (cmpB .In (ret (enc x)) (ret sup))) = _
      simp only [cmpB_ret, in_tup x g hx', hm x hx', bnd_ret, orV_rr]
      rfl
  simp only [lk0, lkS, subS_ret, row0, row1, cmpB_ret, cmp_eq, eq_enc _ _ (.inl (Nat.le_trans hr.s (by decide))), bnd_ret, c, consM_ret, all_map, andV_rr]
  rfl

structure CfF (cf : Str → List D → EM D) : Prop where
  lf : ∀ r g st m sup, SupIs sup m → RwOk r → cf (Str.ofString "_law_from") [encR r, .tuple (g.map enc), enc st, sup] = ret (.bool (frm r g st m))

noncomputable abbrev sgU (row : Rw) (ups : List D) (x y : Option D) : Sg := [some (encR row), some (.list ups), some (.tuple (row.g.map enc)), some (enc row.s), some (.str row.r), x, y, none, none, none, none]
theorem compL_cons1 {turn : D → EM (Option D)} {d y : D} {ds ys : List D} (h : turn d = ret (some y)) (h2 : compL turn ds = ret ys) : compL turn (d :: ds) = ret (y :: ys) := by
  have q : compL turn (d :: ds) = bnd (turn d) fun x => bnd (compL turn ds) fun ys => ret (match x with
      | some y => y :: ys
      | none => ys) := rfl
  rw [q, h, bnd_ret, h2, bnd_ret]
theorem compL_two {turn : D → EM (Option D)} {a b y z : D} (h1 : turn a = ret (some y)) (h2 : turn b = ret (some z)) : compL turn [a, b] = ret [y, z] := compL_cons1 h1 (compL_cons1 h2 rfl)
theorem cut3 (a b c d : D) : cut none (some 3) [a, b, c, d] = [a, b, c] := rfl
theorem sli3 (a b c d : D) : sli0 (.tuple [a, b, c, d]) .none (.int 3) = ret (.tuple [a, b, c]) := by
  funext S
  show Out.ok (D.tuple (cut none (some 3) [a, b, c, d])) S = _
  rw [cut3]; rfl
theorem asg3 (i j k : Nat) (σ : Sg) (a b c : D) : asgT [i, j, k] σ (ret (.tuple [a, b, c])) = ret (.next (put (put (put σ i a) j b) k c)) := rfl
theorem all_two (a b : Bool) : bf0 .all [.list [.bool a, .bool b]] = ret (.bool (a && b)) := by cases a <;> cases b <;> rfl
theorem nxt_eq (σ : Sg) : nxt σ = ret (.next σ) := rfl
section
variable {cf : Str → List D → EM D}
theorem up26 (row : Rw) (ups : List D) : s__law_ups_right cf (encR row) (.list ups) = finM (b__law_ups_right_26 cf (sgU row ups none none)) := by
  unfold s__law_ups_right b__law_ups_right_27
  simp -implicitDefEqProofs only [lk0, sliS_ret, show sli0 (encR row) .none (.int 3) = _ from sli3 _ _ _ _, asg3, put0, putS, seqM_next]
/-- the rule is not 'given': the first row is looked at -/
theorem up23 (row : Rw) (a : Rw) (ups : List D) (c : Ru) (hc : row.r = c.s) (hn : c ≠ .given) : s__law_ups_right cf (encR row) (.list (encR a :: ups)) = finM (b__law_ups_right_23 cf (sgU row (encR a :: ups) (some (enc a.s)) none)) := by
  rw [up26]
  unfold b__law_ups_right_26
  simp -implicitDefEqProofs only [lk0, lkS, cmpS_ret, cmp_eq, eqM_str, hc, show (c.s == Str.ofString "given") = decide (c = .given) from ru_eq c .given, decide_eq_false hn, ifM_false, nxt_eq, seqM_next]
  unfold b__law_ups_right_24
  simp -implicitDefEqProofs only [lk0, lkS, subS_ret, it0, row1, bnd_ret, put0, putS, seqM_next]
variable (h : CfF cf)
include h
theorem CfF.lf0 (r : Rw) (g : List Sx) (st : Sx) (hr : RwOk r) : cf (Str.ofString "_law_from") [encR r, .tuple (g.map enc), enc st, .tuple []] = ret (.bool (frm r g st [])) := h.lf r g st [] _ sup0 hr
theorem CfF.lf1 (r : Rw) (g : List Sx) (st m : Sx) (hr : RwOk r) : cf (Str.ofString "_law_from") [encR r, .tuple (g.map enc), enc st, .list [enc m]] = ret (.bool (frm r g st [m])) := h.lf r g st [m] _ (sup1 m) hr
theorem frm_self (r : Rw) (g : List Sx) : frm r g r.s [] = amg r.g g [] := by unfold frm; simp
end
end Mine
end

section
set_option linter.unusedSimpArgs false
set_option maxRecDepth 100000
set_option maxHeartbeats 1000000
namespace Mine
open PySem

section
variable {cf : Str → List D → EM D}
theorem cmpS_str (x y : Str) : cmpS .Eq (ret (.str x)) (ret (.str y)) = ret (x == y) := rfl
theorem up21 (row a : Rw) (ups : List D) (c : Ru) (hc : row.r = c.s) (hn : c ≠ .given) (hn2 : c ≠ .any) : s__law_ups_right cf (encR row) (.list (encR a :: ups)) = finM (b__law_ups_right_21 cf (sgU row (encR a :: ups) (some (enc a.s)) none)) := by
  rw [up23 row a ups c hc hn]
  unfold b__law_ups_right_23
  simp -implicitDefEqProofs only [lk0, lkS, cmpS_str, hc, show (c.s == Str.ofString "any") = decide (c = .any) from ru_eq c .any, decide_eq_false hn2, ifM_false, nxt_eq, seqM_next]
theorem up16 (row a : Rw) (ups : List D) (c : Ru) (hc : row.r = c.s) (hn : c ≠ .given) (hn2 : c ≠ .any) (hn3 : c ≠ .both) : s__law_ups_right cf (encR row) (.list (encR a :: ups)) = finM (b__law_ups_right_16 cf (sgU row (encR a :: ups) (some (enc a.s)) none)) := by
  rw [up21 row a ups c hc hn hn2]
  unfold b__law_ups_right_21
  simp -implicitDefEqProofs only [lk0, lkS, cmpS_str, hc, show (c.s == Str.ofString "both") = decide (c = .both) from ru_eq c .both, decide_eq_false hn3, ifM_false, nxt_eq, seqM_next]
theorem in_two (c d e : Ru) : cmpM .In (.str c.s) (.list [.str d.s, .str e.s]) = ret (decide (c = d) || decide (c = e)) := by
  have q : inM (.str c.s) (.list ([d.s, e.s].map D.str)) = ret ([d.s, e.s].any fun y => PyData.eqv (.str y) (.str c.s)) := inM_lst (p := .str c.s) rfl [d.s, e.s]
  show inM (.str c.s) (.list ([d.s, e.s].map D.str)) = _
  rw [q]
  congr 1
  show ((d.s == c.s) || ((e.s == c.s) || false)) = _
  rw [ru_eq, ru_eq, Bool.or_false]
  simp only [eq_comm]
theorem lst2' (a b : D) : lst0 (ret [a, b]) = ret (.list [a, b]) := lst0_ret _ (by simp)
theorem up13 (row a : Rw) (ups : List D) (c : Ru) (hc : row.r = c.s) (hn : c = .suppose ∨ c = .left ∨ c = .right ∨ c = .onward ∨ c = .cases) : s__law_ups_right cf (encR row) (.list (encR a :: ups)) = finM (b__law_ups_right_13 cf (sgU row (encR a :: ups) (some (enc a.s)) none)) := by
  rw [up16 row a ups c hc (by rintro rfl; simp at hn) (by rintro rfl; simp at hn) (by rintro rfl; simp at hn)]
  have e : (decide (c = Ru.one) || decide (c = Ru.other)) = false := by rcases hn with rfl | rfl | rfl | rfl | rfl <;> rfl
  unfold b__law_ups_right_16
  simp -implicitDefEqProofs only [lk0, lkS, hc, consM_ret, lst2', cmpS_ret, show cmpM .In (.str c.s) (.list [.str (Str.ofString "one"), .str (Str.ofString "other")]) = _ from in_two c .one .other, e, ifM_false, nxt_eq, seqM_next]
variable (h : CfF cf)
include h
theorem up9 (row a : Rw) (ups : List D) (c : Ru) (hc : row.r = c.s) (hn : c = .left ∨ c = .right ∨ c = .onward ∨ c = .cases) (ha : RwOk a) : s__law_ups_right cf (encR row) (.list (encR a :: ups)) = if amg a.g row.g [] then finM (b__law_ups_right_9 cf (sgU row (encR a :: ups) (some (enc a.s)) none)) else ret (.bool false) := by
  rw [up13 row a ups c hc (.inr hn)]
  have e : decide (c = Ru.suppose) = false := by rcases hn with rfl | rfl | rfl | rfl <;> rfl
  unfold b__law_ups_right_13
  simp -implicitDefEqProofs only [lk0, lkS, cmpS_str, hc, show (c.s == Str.ofString "suppose") = decide (c = .suppose) from ru_eq c .suppose, e, ifM_false, nxt_eq, seqM_next]
  unfold b__law_ups_right_11
  simp -implicitDefEqProofs only [lk0, lkS, subS_ret, it0, tup0, consM_ret, callN_ret, h.lf0 _ _ _ ha, frm_self h, calm_ret, bnd_ret, truth_bool, notM_ret]
  cases amg a.g row.g [] with
  | true => simp -implicitDefEqProofs only [Bool.not_true, ifM_false, nxt_eq, seqM_next, if_true, hc]
  | false => rfl
theorem law_ups_ok (row : Rw) (c : Ru) (ups : List Rw) (hc : row.r = c.s) (hs : row.s.dep ≤ 50) (hu : ∀ r ∈ ups, RwOk r) (hl : ups.length = c.cnt) :
    s__law_ups_right cf (encR row) (.list (ups.map encR)) = ret (.bool (ruled row.g row.s c ups)) := by
  have hs' : row.s.dep ≤ 500 := Nat.le_trans hs (by decide)
  cases c with
  | given =>
    obtain rfl := ups0 hl
    rw [up26]
    unfold b__law_ups_right_26
    simp -implicitDefEqProofs only [lk0, lkS, cmpS_str, hc, show (Ru.given.s == Str.ofString "given") = decide (Ru.given = .given) from ru_eq .given .given, decide_true, ifM_true]
    unfold b__law_ups_right_25
    simp -implicitDefEqProofs only [lk0, lkS, cmpB_ret, in_tup row.s row.g hs', bnd_ret, seqM_ret, finM_ret]
    rfl
  | any =>
    obtain ⟨a, rfl⟩ := ups1 hl
    show s__law_ups_right cf (encR row) (.list (encR a :: [])) = _
    rw [up23 row a [] .any hc (by simp)]
    unfold b__law_ups_right_23
    simp -implicitDefEqProofs only [lk0, lkS, cmpS_str, hc, show (Ru.any.s == Str.ofString "any") = decide (Ru.any = .any) from ru_eq .any .any, decide_true, ifM_true]
    unfold b__law_ups_right_22
    simp -implicitDefEqProofs only [lk0, lkS, subS_ret, it0, tup0, tup1, consM_ret, bnd_ret, show cf (Str.ofString "_law_from") [encR a, .tuple (row.g.map enc), .tuple [.str (Str.ofString "false")], .tuple []] = _ from h.lf0 a row.g .fls (hu a (by simp)), seqM_ret, finM_ret]
    rfl
  | both =>
    obtain ⟨a, b, rfl⟩ := ups2 hl
    have ha := hu a (by simp)
    have hb := hu b (by simp)
    show s__law_ups_right cf (encR row) (.list (encR a :: [encR b])) = ret (.bool (isW .a row.s && (frm a row.g (pt1 row.s) [] && frm b row.g (pt2 row.s) [])))
    rw [up21 row a [encR b] .both hc (by simp) (by simp)]
    unfold b__law_ups_right_21
    simp -implicitDefEqProofs only [lk0, lkS, cmpS_str, hc, show (Ru.both.s == Str.ofString "both") = decide (Ru.both = .both) from ru_eq .both .both, decide_true, ifM_true]
    unfold b__law_ups_right_20
    simp -implicitDefEqProofs only [lk0, lkS, subS_ret, sit0, cmpS_ret, cmp_ne, eqM_str, hd_a, bnd_ret]
    cases hw : isW .a row.s with
    | false => rfl
    | true =>
      have e := isW_inv hw
      have i1 : itemM (enc row.s) (.int 1) = ret (enc (pt1 row.s)) := by rw [e]; rfl
      have i2 : itemM (enc row.s) (.int 2) = ret (enc (pt2 row.s)) := by rw [e]; rfl
      simp -implicitDefEqProofs only [Bool.not_true, ifM_false, nxt_eq, seqM_next]
      unfold b__law_ups_right_18
      have cm : comp0 (ret (.range 0 2)) (t__law_ups_right_17 cf (sgU row [encR a, encR b] (some (enc a.s)) none)) = ret (.list [.bool (frm a row.g (pt1 row.s) []), .bool (frm b row.g (pt2 row.s) [])]) := by
        show bnd (compL _ [D.int 0, D.int 1]) (fun ys => mkList cfg0 pos0 ys) = _
        rw [compL_two (y := .bool (frm a row.g (pt1 row.s) [])) (z := .bool (frm b row.g (pt2 row.s) []))]
        · rfl
        · unfold t__law_ups_right_17
          show turnS (ret true) (callN cf (Str.ofString "_law_from") (consM (subS (ret (.list [encR a, encR b])) (ret (.int 0))) (consM (ret (.tuple (row.g.map enc))) (consM (subS (ret (enc row.s)) (ret (.int 1))) (consM (tupM (ret [])) (ret [])))))) = _
          simp -implicitDefEqProofs only [subS_ret, it0, i1, tup0, consM_ret, callN_ret, h.lf0 _ _ _ ha, calm_ret]
          rfl
        · unfold t__law_ups_right_17
          show turnS (ret true) (callN cf (Str.ofString "_law_from") (consM (subS (ret (.list [encR a, encR b])) (ret (.int 1))) (consM (ret (.tuple (row.g.map enc))) (consM (subS (ret (enc row.s)) (ret (.int 2))) (consM (tupM (ret [])) (ret [])))))) = _
          simp -implicitDefEqProofs only [subS_ret, it1, i2, tup0, consM_ret, callN_ret, h.lf0 _ _ _ hb, calm_ret]
          rfl
      show finM (seqM (seqM (bnd (bnd (consM (comp0 (ret (.range 0 2)) (t__law_ups_right_17 cf _)) (ret [])) fun ds => bf0 .all ds) fun d => ret (.ret d)) nxt) _) = _
      rw [cm]
      simp -implicitDefEqProofs only [consM_ret, bnd_ret, all_two, seqM_ret, finM_ret]
      rfl
  | suppose =>
    obtain ⟨a, rfl⟩ := ups1 hl
    have ha := hu a (by simp)
    show s__law_ups_right cf (encR row) (.list (encR a :: [])) = ret (.bool (isW .t row.s && frm a row.g (pt2 row.s) [pt1 row.s]))
    rw [up13 row a [] .suppose hc (.inl rfl)]
    unfold b__law_ups_right_13
    simp -implicitDefEqProofs only [lk0, lkS, cmpS_str, hc, show (Ru.suppose.s == Str.ofString "suppose") = decide (Ru.suppose = .suppose) from ru_eq .suppose .suppose, decide_true, ifM_true]
    unfold b__law_ups_right_12
    simp -implicitDefEqProofs only [lk0, lkS, subS_ret, sit0, cmpB_ret, cmp_eq, eqM_str, hd_t, bnd_ret]
    cases hw : isW .t row.s with
    | false => rfl
    | true =>
      have e := isW_inv hw
      have i1 : itemM (enc row.s) (.int 1) = ret (enc (pt1 row.s)) := by rw [e]; rfl
      have i2 : itemM (enc row.s) (.int 2) = ret (enc (pt2 row.s)) := by rw [e]; rfl
      simp -implicitDefEqProofs only [it0, i1, i2, consM_ret, lst1, callN_ret, h.lf1 _ _ _ _ ha, calm_ret, andV_rr, bnd_ret, seqM_ret, finM_ret]
  | one =>
    obtain ⟨a, rfl⟩ := ups1 hl
    have ha := hu a (by simp)
    show s__law_ups_right cf (encR row) (.list (encR a :: [])) = ret (.bool (isW .o row.s && frm a row.g (pt1 row.s) []))
    rw [up16 row a [] .one hc (by simp) (by simp) (by simp)]
    unfold b__law_ups_right_16
    simp -implicitDefEqProofs only [lk0, lkS, hc, consM_ret, lst2', cmpS_ret, show cmpM .In (.str Ru.one.s) (.list [.str (Str.ofString "one"), .str (Str.ofString "other")]) = ret true from in_two .one .one .other, ifM_true]
    unfold b__law_ups_right_15
    have i : bf0 .int [.bool false] = ret (.int 0) := rfl
    simp -implicitDefEqProofs only [lk0, lkS, hc, cmpB_ret, cmp_eq, eqM_str, show (Ru.one.s == Str.ofString "other") = false from ru_eq .one .other, bnd_ret, consM_ret, i, binS_ret, add_ints, put0, putS, seqM_next]
    unfold b__law_ups_right_14
    simp -implicitDefEqProofs only [lk0, lkS, subS_ret, sit0, cmpB_ret, cmp_eq, eqM_str, hd_o, bnd_ret]
    cases hw : isW .o row.s with
    | false => rfl
    | true =>
      have e := isW_inv hw
      have i1 : itemM (enc row.s) (.int (1 + 0)) = ret (enc (pt1 row.s)) := by rw [e]; rfl
      simp -implicitDefEqProofs only [it0, i1, consM_ret, tup0, callN_ret, h.lf0 _ _ _ ha, calm_ret, andV_rr, bnd_ret, seqM_ret, finM_ret]
  | other =>
    obtain ⟨a, rfl⟩ := ups1 hl
    have ha := hu a (by simp)
    show s__law_ups_right cf (encR row) (.list (encR a :: [])) = ret (.bool (isW .o row.s && frm a row.g (pt2 row.s) []))
    rw [up16 row a [] .other hc (by simp) (by simp) (by simp)]
    unfold b__law_ups_right_16
    simp -implicitDefEqProofs only [lk0, lkS, hc, consM_ret, lst2', cmpS_ret, show cmpM .In (.str Ru.other.s) (.list [.str (Str.ofString "one"), .str (Str.ofString "other")]) = ret true from in_two .other .one .other, ifM_true]
    unfold b__law_ups_right_15
    have i : bf0 .int [.bool true] = ret (.int 1) := rfl
    simp -implicitDefEqProofs only [lk0, lkS, hc, cmpB_ret, cmp_eq, eqM_str, show (Ru.other.s == Str.ofString "other") = true from ru_eq .other .other, bnd_ret, consM_ret, i, binS_ret, add_ints, put0, putS, seqM_next]
    unfold b__law_ups_right_14
    simp -implicitDefEqProofs only [lk0, lkS, subS_ret, sit0, cmpB_ret, cmp_eq, eqM_str, hd_o, bnd_ret]
    cases hw : isW .o row.s with
    | false => rfl
    | true =>
      have e := isW_inv hw
      have i1 : itemM (enc row.s) (.int (1 + 1)) = ret (enc (pt2 row.s)) := by rw [e]; rfl
      simp -implicitDefEqProofs only [it0, i1, consM_ret, tup0, callN_ret, h.lf0 _ _ _ ha, calm_ret, andV_rr, bnd_ret, seqM_ret, finM_ret]
  | left =>
    obtain ⟨a, rfl⟩ := ups1 hl
    have ha := hu a (by simp)
    show s__law_ups_right cf (encR row) (.list (encR a :: [])) = ret (.bool (isW .a a.s && (decide (pt1 a.s = row.s) && amg a.g row.g [])))
    rw [up9 h row a [] .left hc (.inl rfl) ha]
    cases amg a.g row.g [] with
    | false => rw [Bool.and_false, Bool.and_false]; rfl
    | true =>
      rw [Bool.and_true, if_pos rfl]
      unfold b__law_ups_right_9
      simp -implicitDefEqProofs only [lk0, lkS, hc, consM_ret, lst2', cmpS_ret, show cmpM .In (.str Ru.left.s) (.list [.str (Str.ofString "left"), .str (Str.ofString "right")]) = ret true from in_two .left .left .right, ifM_true]
      unfold b__law_ups_right_8
      have i : bf0 .int [.bool false] = ret (.int 0) := rfl
      simp -implicitDefEqProofs only [lk0, lkS, hc, subS_ret, sit0, cmpB_ret, cmp_eq, eqM_str, hd_a, show (Ru.left.s == Str.ofString "right") = false from ru_eq .left .right, bnd_ret, consM_ret, i, binS_ret, add_ints]
      cases hw : isW .a a.s with
      | false => rfl
      | true =>
        have e := isW_inv hw
        have i1 : itemM (enc a.s) (.int (1 + 0)) = ret (enc (pt1 a.s)) := by rw [e]; rfl
        simp -implicitDefEqProofs only [i1, cmpB_ret, cmp_eq, eq_enc _ _ (.inl hs'), bnd_ret, andV_rr, seqM_ret, finM_ret, Bool.true_and]
        rw [show decide (row.s = pt1 a.s) = decide (pt1 a.s = row.s) from by simp only [eq_comm]]
  | right =>
    obtain ⟨a, rfl⟩ := ups1 hl
    have ha := hu a (by simp)
    show s__law_ups_right cf (encR row) (.list (encR a :: [])) = ret (.bool (isW .a a.s && (decide (pt2 a.s = row.s) && amg a.g row.g [])))
    rw [up9 h row a [] .right hc (.inr (.inl rfl)) ha]
    cases amg a.g row.g [] with
    | false => rw [Bool.and_false, Bool.and_false]; rfl
    | true =>
      rw [Bool.and_true, if_pos rfl]
      unfold b__law_ups_right_9
      simp -implicitDefEqProofs only [lk0, lkS, hc, consM_ret, lst2', cmpS_ret, show cmpM .In (.str Ru.right.s) (.list [.str (Str.ofString "left"), .str (Str.ofString "right")]) = ret true from in_two .right .left .right, ifM_true]
      unfold b__law_ups_right_8
      have i : bf0 .int [.bool true] = ret (.int 1) := rfl
      simp -implicitDefEqProofs only [lk0, lkS, hc, subS_ret, sit0, cmpB_ret, cmp_eq, eqM_str, hd_a, show (Ru.right.s == Str.ofString "right") = true from ru_eq .right .right, bnd_ret, consM_ret, i, binS_ret, add_ints]
      cases hw : isW .a a.s with
      | false => rfl
      | true =>
        have e := isW_inv hw
        have i1 : itemM (enc a.s) (.int (1 + 1)) = ret (enc (pt2 a.s)) := by rw [e]; rfl
        simp -implicitDefEqProofs only [i1, cmpB_ret, cmp_eq, eq_enc _ _ (.inl hs'), bnd_ret, andV_rr, seqM_ret, finM_ret, Bool.true_and]
        rw [show decide (row.s = pt2 a.s) = decide (pt2 a.s = row.s) from by simp only [eq_comm]]
  | onward =>
    obtain ⟨a, b, rfl⟩ := ups2 hl
    have ha := hu a (by simp)
    have hb := hu b (by simp)
    show s__law_ups_right cf (encR row) (.list (encR a :: [encR b])) = ret (.bool (isW .t a.s && (decide (pt2 a.s = row.s) && (amg a.g row.g [] && frm b row.g (pt1 a.s) []))))
    rw [up9 h row a [encR b] .onward hc (.inr (.inr (.inl rfl))) ha]
    cases amg a.g row.g [] with
    | false => rw [Bool.false_and, Bool.and_false, Bool.and_false]; rfl
    | true =>
      rw [Bool.true_and, if_pos rfl]
      unfold b__law_ups_right_9
      simp -implicitDefEqProofs only [lk0, lkS, hc, consM_ret, lst2', cmpS_ret, show cmpM .In (.str Ru.onward.s) (.list [.str (Str.ofString "left"), .str (Str.ofString "right")]) = ret false from in_two .onward .left .right, ifM_false, nxt_eq, seqM_next]
      unfold b__law_ups_right_7
      simp -implicitDefEqProofs only [lk0, lkS, hc, cmpS_str, show (Ru.onward.s == Str.ofString "onward") = true from ru_eq .onward .onward, ifM_true]
      unfold b__law_ups_right_6
      simp -implicitDefEqProofs only [lk0, lkS, hc, subS_ret, sit0, cmpS_ret, cmp_ne, eqM_str, hd_t, bnd_ret]
      cases hw : isW .t a.s with
      | false => rfl
      | true =>
        have e := isW_inv hw
        have i1 : itemM (enc a.s) (.int 1) = ret (enc (pt1 a.s)) := by rw [e]; rfl
        have i2 : itemM (enc a.s) (.int 2) = ret (enc (pt2 a.s)) := by rw [e]; rfl
        simp -implicitDefEqProofs only [i2, cmpS_ret, cmp_ne, eq_enc _ _ (.inl hs'), bnd_ret, Bool.not_true, orM_rr, Bool.false_or, Bool.or_false, Bool.true_and]
        rw [show decide (row.s = pt2 a.s) = decide (pt2 a.s = row.s) from by simp only [eq_comm]]
        cases decide (pt2 a.s = row.s) with
        | false => rfl
        | true =>
          simp -implicitDefEqProofs only [Bool.not_true, ifM_false, nxt_eq, seqM_next]
          unfold b__law_ups_right_4
          simp -implicitDefEqProofs only [lk0, lkS, subS_ret, it1, i1, tup0, consM_ret, bnd_ret, h.lf0 _ _ _ hb, seqM_ret, finM_ret, Bool.true_and]
  | cases =>
    obtain ⟨a, b, d, rfl⟩ := ups3 hl
    have ha := hu a (by simp)
    have hb := hu b (by simp)
    have hd := hu d (by simp)
    show s__law_ups_right cf (encR row) (.list (encR a :: [encR b, encR d])) = ret (.bool (isW .o a.s && (amg a.g row.g [] && (frm b row.g row.s [pt1 a.s] && frm d row.g row.s [pt2 a.s]))))
    rw [up9 h row a [encR b, encR d] .cases hc (.inr (.inr (.inr rfl))) ha]
    cases amg a.g row.g [] with
    | false => rw [Bool.false_and, Bool.and_false]; rfl
    | true =>
      rw [Bool.true_and, if_pos rfl]
      unfold b__law_ups_right_9
      simp -implicitDefEqProofs only [lk0, lkS, hc, consM_ret, lst2', cmpS_ret, show cmpM .In (.str Ru.cases.s) (.list [.str (Str.ofString "left"), .str (Str.ofString "right")]) = ret false from in_two .cases .left .right, ifM_false, nxt_eq, seqM_next]
      unfold b__law_ups_right_7
      simp -implicitDefEqProofs only [lk0, lkS, hc, cmpS_str, show (Ru.cases.s == Str.ofString "onward") = false from ru_eq .cases .onward, ifM_false, nxt_eq, seqM_next]
      unfold b__law_ups_right_3
      simp -implicitDefEqProofs only [lk0, lkS, hc, subS_ret, sit0, cmpS_ret, cmp_ne, eqM_str, hd_o, bnd_ret]
      cases hw : isW .o a.s with
      | false => rfl
      | true =>
        have e := isW_inv hw
        have i1 : itemM (enc a.s) (.int 1) = ret (enc (pt1 a.s)) := by rw [e]; rfl
        have i2 : itemM (enc a.s) (.int 2) = ret (enc (pt2 a.s)) := by rw [e]; rfl
        simp -implicitDefEqProofs only [Bool.not_true, ifM_false, nxt_eq, seqM_next, Bool.true_and]
        unfold b__law_ups_right_1
        have cm : ∀ x : Str, comp0 (ret (.range 1 3)) (t__law_ups_right_0 cf [some (encR row), some (.list [encR a, encR b, encR d]), some (.tuple (row.g.map enc)), some (enc row.s), some (.str x), some (enc a.s), none, none, none, none, none]) = ret (.list [.bool (frm b row.g row.s [pt1 a.s]), .bool (frm d row.g row.s [pt2 a.s])]) := by
          intro x
          show bnd (compL _ [D.int 1, D.int 2]) (fun ys => mkList cfg0 pos0 ys) = _
          rw [compL_two (y := .bool (frm b row.g row.s [pt1 a.s])) (z := .bool (frm d row.g row.s [pt2 a.s]))]
          · rfl
          · unfold t__law_ups_right_0
            show turnS (ret true) (callN cf (Str.ofString "_law_from") (consM (subS (ret (.list [encR a, encR b, encR d])) (ret (.int 1))) (consM (ret (.tuple (row.g.map enc))) (consM (ret (enc row.s)) (consM (lst0 (consM (subS (ret (enc a.s)) (ret (.int 1))) (ret []))) (ret [])))))) = _
            simp -implicitDefEqProofs only [subS_ret, it1, i1, lst1, consM_ret, callN_ret, h.lf1 _ _ _ _ hb, calm_ret]
            rfl
          · unfold t__law_ups_right_0
            show turnS (ret true) (callN cf (Str.ofString "_law_from") (consM (subS (ret (.list [encR a, encR b, encR d])) (ret (.int 2))) (consM (ret (.tuple (row.g.map enc))) (consM (ret (enc row.s)) (consM (lst0 (consM (subS (ret (enc a.s)) (ret (.int 2))) (ret []))) (ret [])))))) = _
            simp -implicitDefEqProofs only [subS_ret, it2, i2, lst1, consM_ret, callN_ret, h.lf1 _ _ _ _ hd, calm_ret]
            rfl
        simp -implicitDefEqProofs only [consM_ret, bnd_ret, range2, cm, all_two, seqM_ret, finM_ret]
end
end Mine
end

section
set_option linter.unusedSimpArgs false
set_option maxRecDepth 100000
set_option maxHeartbeats 1000000
namespace Mine
open PySem

theorem ruOf_inv {x : Str} {c : Ru} (h : ruOf x = some c) : x = c.s := by
  have := List.find?_some h
  exact (of_decide_eq_true this).symm
theorem ruOf_none {x : Str} (h : ruOf x = none) (c : Ru) : (x == c.s) = false := by
  refine beq_false_of_ne fun e => ?_
  rw [e, ruOf_s] at h; cases h
noncomputable def cntL : List (Str × D) := [(Str.ofString "given", .int 0), (Str.ofString "both", .int 2), (Str.ofString "left", .int 1), (Str.ofString "right", .int 1), (Str.ofString "one", .int 1), (Str.ofString "other", .int 1), (Str.ofString "cases", .int 3), (Str.ofString "suppose", .int 1), (Str.ofString "onward", .int 2), (Str.ofString "any", .int 1)]
theorem cnt_some (c : Ru) : cntL.lookup c.s = some (.int c.cnt) := by cases c <;> rfl
theorem cnt_none {x : Str} (h : ruOf x = none) : cntL.lookup x = none := by
  unfold cntL
  simp only [List.lookup_cons, show (x == Str.ofString "given") = false from ruOf_none h .given, show (x == Str.ofString "both") = false from ruOf_none h .both, show (x == Str.ofString "left") = false from ruOf_none h .left, show (x == Str.ofString "right") = false from ruOf_none h .right,
    show (x == Str.ofString "one") = false from ruOf_none h .one, show (x == Str.ofString "other") = false from ruOf_none h .other, show (x == Str.ofString "cases") = false from ruOf_none h .cases, show (x == Str.ofString "suppose") = false from ruOf_none h .suppose, show (x == Str.ofString "onward") = false from ruOf_none h .onward,
    show (x == Str.ofString "any") = false from ruOf_none h .any, List.lookup_nil]

section
variable {S : Store} {r : D} {rows : List Rw} {n : Nat}
theorem listOf_cases {ds : List D} (h : listOf S r = some ds) : r = .list ds ∨ ∃ k, r = .loc k ∧ S[k]? = some (.list ds) := by
  unfold listOf at h
  split at h
  · cases h; exact .inl rfl
  · rename_i k
    split at h
    · rename_i e; cases h; exact .inr ⟨k, rfl, e⟩
    · cases h
  · cases h
theorem listOf_grow {ds : List D} (t : Store) (h : listOf S r = some ds) : listOf (S ++ t) r = some ds := by
  rcases listOf_cases h with rfl | ⟨k, rfl, e⟩
  · rfl
  · show (match (S ++ t)[k]? with
      | some (.list ds) => some ds
      | _ => none) = _
    rw [List.getElem?_append_left (List.getElem?_eq_some_iff.mp e).1, e]
theorem item_at {ds : List D} {k : Nat} {d : D} (h : listOf S r = some ds) (hk : ds[k]? = some d) : itemM r (.int k) S = .ok d S := by
  rcases listOf_cases h with rfl | ⟨k, rfl, e⟩
  · rw [itemL_at hk]; rfl
  · exact item_loc e hk
theorem compL_st {α : Type} {f : α → D} {g : α → D} {turn : D → EM (Option D)} : ∀ l : List α, (∀ a ∈ l, turn (f a) S = .ok (some (g a)) S) → compL turn (l.map f) S = .ok (l.map g) S
  | [], _ => rfl
  | d :: ds, h => by
    have q : compL turn ((d :: ds).map f) = bnd (turn (f d)) fun x => bnd (compL turn (ds.map f)) fun ys => ret (match x with
      | some y => y :: ys
      | none => ys) := rfl
    rw [q, bnd_st (h d (List.mem_cons_self ..)), bnd_st (compL_st ds fun x hx => h x (List.mem_cons_of_mem _ hx))]
    rfl
theorem row_at (hn : n < rows.length) : (rows.map encR)[n]? = some (encR ((rows[n]?).getD rw0)) := by
  rw [List.getElem?_map, List.getElem?_eq_getElem hn]; rfl
theorem row_ok (h : ∀ x ∈ rows, RwOk x) (hn : n < rows.length) : RwOk ((rows[n]?).getD rw0) := by
  rw [List.getElem?_eq_getElem hn]; exact h _ (List.getElem_mem hn)
/-- the rows that it comes of -/
theorem ups_ok {u : List Int} (h : ∀ x ∈ rows, RwOk x) (hn : n < rows.length) (hu : u.all (inRng n) = true) : ∀ x ∈ upsOf rows u, RwOk x := by
  intro x hx
  obtain ⟨i, hi, rfl⟩ := List.mem_map.mp hx
  have := List.all_eq_true.mp hu i hi
  unfold inRng at this
  rw [Bool.and_eq_true, decide_eq_true_eq, decide_eq_true_eq] at this
  exact row_ok h (by omega)
theorem ups_comp {u : List Int} {turn : D → EM (Option D)} (hl : listOf S r = some (rows.map encR)) (hn : n < rows.length) (hu : u.all (inRng n) = true) (ht : ∀ i : Int, turn (.int i) = turnS (ret true) (subS (ret r) (ret (.int i)))) :
    comp0 (ret (.tuple (u.map .int))) turn S = .ok (.list ((upsOf rows u).map encR)) S := by
  show bnd (compL turn (u.map D.int)) (fun ys => mkList cfg0 pos0 ys) S = _
  rw [bnd_st (compL_st (g := fun i => encR ((rows[i.toNat]?).getD rw0)) u fun i hi => ?_)]
  · show Out.ok (D.list _) S = _
    unfold upsOf
    rw [List.map_map]; rfl
  · have := List.all_eq_true.mp hu i hi
    unfold inRng at this
    rw [Bool.and_eq_true, decide_eq_true_eq, decide_eq_true_eq] at this
    obtain ⟨k, rfl⟩ := Int.eq_ofNat_of_zero_le this.1
    have hk : k < rows.length := by omega
    have e := item_at hl (row_at hk)
    rw [ht]
    show bnd (itemM r (.int k)) (fun y => ret (some y)) S = _
    rw [bnd_st e]; rfl
end
end Mine
end

section
set_option linter.unusedSimpArgs false
set_option maxRecDepth 100000
set_option maxHeartbeats 1000000
namespace Mine
open PySem

structure CfR (cf : Str → List D → EM D) : Prop where
  rl : ∀ (g : List Sx) (s : Sx) (c : Ru) (ups : List Rw), s.dep ≤ 50 → (∀ r ∈ ups, RwOk r) → ups.length = c.cnt → cf (Str.ofString "is_ruled") [.tuple (g.map enc), enc s, .str c.s, .list (ups.map encR)] = ret (.bool (ruled g s c ups))
  up : ∀ (row : Rw) (c : Ru) (ups : List Rw), row.r = c.s → row.s.dep ≤ 50 → (∀ r ∈ ups, RwOk r) → ups.length = c.cnt → cf (Str.ofString "_law_ups_right") [encR row, .list (ups.map encR)] = ret (.bool (ruled row.g row.s c ups))
section
variable {cf : Str → List D → EM D} {S : Store} {r : D} {rows : List Rw} {n : Nat}
noncomputable abbrev sgF (r : D) (n : Nat) (row : Rw) (o : Option D) : Sg := [some r, some (.int n), some (.tuple (row.g.map enc)), some (enc row.s), some (.str row.r), some (.tuple (row.u.map .int)), o, none, none, none]
theorem in_cnt (x : Str) : cmpM .NotIn (.str x) c_COUNTS = ret (!(cntL.lookup x).isSome) := rfl
theorem it_cnt (x : Str) : itemM c_COUNTS (.str x) = optM (cntL.lookup x) := rfl
theorem asg4 (i j k l : Nat) (σ : Sg) (a b c d : D) : asgT [i, j, k, l] σ (ret (.tuple [a, b, c, d])) = ret (.next (put (put (put (put σ i a) j b) k c) l d)) := rfl
theorem asgT_st {is : List Nat} {σ : Sg} {m : EM D} {S1 : Store} {d : D} (h : m S = .ok d S1) : asgT is σ m S = asgT is σ (ret d) S1 := by unfold asgT; rw [bnd_st h]; rfl
theorem len_u (u : List Int) : bf0 .len [.tuple (u.map D.int)] = ret (.int u.length) := by
  show ret (D.int (u.map D.int).length) = _
  rw [List.length_map]
theorem seq_ret_st {m : EM Fl} {k : Sg → EM Fl} {d : D} {S1 : Store} (h : m S = .ok (.ret d) S1) : seqM m k S = .ok (.ret d) S1 := by unfold seqM; rw [bnd_st h]; rfl
theorem fol_eq (row : Rw) (h : (rows[n]?).getD rw0 = row) : fol rows n = folR rows n row := by unfold fol; rw [h]
theorem follows_ok (h : CfR cf) (hl : listOf S r = some (rows.map encR)) (hn : n < rows.length) (hr : ∀ x ∈ rows, RwOk x) : s_follows cf r (.int n) S = .ok (.bool (fol rows n)) S := by
  unfold s_follows b_follows_7
  have hrow := row_ok hr hn
  have e0 := item_at hl (row_at hn)
  rw [fol_eq _ rfl]
  generalize (rows[n]?).getD rw0 = row at hrow e0
  have e1 : asgT [2, 3, 4, 5] [some r, some (.int n), none, none, none, none, none, none, none, none] (subS (lk [some r, some (.int n), none, none, none, none, none, none, none, none] 0) (lk [some r, some (.int n), none, none, none, none, none, none, none, none] 1)) S = .ok (.next (sgF r n row none)) S := by
    have e0' : subS (lk [some r, some (.int n), none, none, none, none, none, none, none, none] 0) (lk [some r, some (.int n), none, none, none, none, none, none, none, none] 1) S = .ok (encR row) S := e0
    rw [asgT_st e0']
    exact congrFun (asg4 2 3 4 5 _ _ _ _ _) S
  rw [go_st e1]
  unfold b_follows_6
  simp -implicitDefEqProofs only [lk0, lkS, cmpS_ret, in_cnt, consM_ret, bnd_ret, len_u, subS_ret, it_cnt]
  unfold folR
  cases hc : ruOf row.r with
  | none =>
    rw [cnt_none hc]
    rfl
  | some c =>
    rw [ruOf_inv hc, cnt_some c]
    show finM (seqM (ifM (orM (ret false) (orM (cmpS .NotEq (ret (.int row.u.length)) (ret (.int c.cnt))) (ret false))) (b_follows_5 cf (sgF r n row none)) (nxt (sgF r n row none))) (b_follows_4 cf)) S = _
    simp -implicitDefEqProofs only [cmpS_ret, ne_ints, orM_rr, Bool.or_false, Bool.false_or]
    have hi : ((row.u.length : Int) == (c.cnt : Int)) = decide (row.u.length = c.cnt) := by
      rw [Bool.eq_iff_iff]; simp; omega
    rw [hi]
    cases hd : decide (row.u.length = c.cnt) with
    | false => rfl
    | true =>
      rw [Bool.true_and]
      show finM (b_follows_4 cf (sgF r n row none)) S = _
      unfold b_follows_4
      show finM (seqM (forL (fun d σ => b_follows_3 cf (put σ 6 d)) (row.u.map D.int) (sgF r n row none)) (b_follows_1 cf)) S = _
      have lp := forL_enc (f := D.int) (body := fun d σ => b_follows_3 cf (put σ 6 d)) (p := inRng n) (r := .bool false) (fun σ => ∃ o, σ = sgF r n row o) row.u (fun i hi σ hσ => by
        obtain ⟨o, rfl⟩ := hσ
        have e : b_follows_3 cf (put (sgF r n row o) 6 (.int i)) = seqM (ifM (ret (!inRng n i)) (ret (.ret (.bool false))) (ret (.next (sgF r n row (some (.int i)))))) nxt := by
          unfold b_follows_3
          simp -implicitDefEqProofs only [put0, putS, lk0, lkS, bnd_ret, chainS_ret, chain1_ret, le_ints', lt_ints]
          unfold inRng
          cases decide (0 ≤ i) <;> rfl
        show (_ ∧ ∃ σ', _ ∧ b_follows_3 cf (put _ 6 (.int i)) = _) ∨ (_ ∧ b_follows_3 cf (put _ 6 (.int i)) = _)
        rw [e]
        cases inRng n i with
        | true => exact .inl ⟨rfl, _, ⟨_, rfl⟩, rfl⟩
        | false => exact .inr ⟨rfl, rfl⟩) _ ⟨none, rfl⟩
      rcases lp with ⟨e, σ', ⟨o, rfl⟩, q⟩ | ⟨e, q⟩
      · rw [q, e, seqM_next, Bool.true_and]
        unfold b_follows_1
        have cm := ups_comp (turn := t_follows_0 cf (sgF r n row o)) hl hn e fun i => rfl
        have hlen : (upsOf rows row.u).length = c.cnt := by unfold upsOf; rw [List.length_map]; exact of_decide_eq_true hd
        have rl := h.rl row.g row.s c (upsOf rows row.u) hrow.s (ups_ok hr hn e) hlen
        rw [← ruOf_inv hc] at rl
        have e2 : bnd (consM (lk (sgF r n row o) 2) (consM (lk (sgF r n row o) 3) (consM (lk (sgF r n row o) 4) (consM (comp0 (lk (sgF r n row o) 5) (t_follows_0 cf (sgF r n row o))) (ret []))))) (fun ds => cf (Str.ofString "is_ruled") ds) S = .ok (.bool (ruled row.g row.s c (upsOf rows row.u))) S := by
          show bnd (bnd (ret (.tuple (row.g.map enc))) fun d => bnd (bnd (ret (enc row.s)) fun d => bnd (bnd (ret (.str row.r)) fun d => bnd (bnd (comp0 (ret (.tuple (row.u.map .int))) (t_follows_0 cf (sgF r n row o))) fun d => bnd (ret []) fun ds => ret (d :: ds)) fun ds => ret (d :: ds)) fun ds => ret (d :: ds)) fun ds => ret (d :: ds)) (fun ds => cf (Str.ofString "is_ruled") ds) S = _
          simp -implicitDefEqProofs only [bnd_ret, bnd_assoc]
          rw [bnd_st cm, rl]; rfl
        show finM (seqM (bnd (bnd _ fun ds => cf (Str.ofString "is_ruled") ds) fun d => ret (.ret d)) nxt) S = _
        exact fin_st (seq_ret_st (bnd_st e2))
      · rw [q, e]; rfl
end
end Mine
end

section
set_option linter.unusedSimpArgs false
set_option maxRecDepth 100000
set_option maxHeartbeats 1000000
namespace Mine
open PySem

noncomputable def cnt1 : List (Str × D) := [(Str.ofString "given", .int 0), (Str.ofString "both", .int 2), (Str.ofString "left", .int 1), (Str.ofString "right", .int 1), (Str.ofString "one", .int 1), (Str.ofString "other", .int 1)]
noncomputable def cnt2 : List (Str × D) := [(Str.ofString "cases", .int 3), (Str.ofString "suppose", .int 1), (Str.ofString "onward", .int 2), (Str.ofString "any", .int 1)]
theorem cnt12 : cnt1 ++ cnt2 = cntL := rfl
theorem cnt_nodup : ((cnt1 ++ cnt2).map (·.1)).Nodup := by decide +kernel
section
variable {cf : Str → List D → EM D} {S : Store} {r : D} {rows : List Rw} {n : Nat}
theorem upd_loc {k : Nat} {kvs more : List (Str × D)} (h : S[k]? = some (.dict kvs)) (hz : kvs.length + more.length ≤ 1000) (hn : ((kvs ++ more).map (·.1)).Nodup) :
    methS mUpdate (ret (.loc k)) (ret [.dict more]) S = .ok .none (S.set k (.dict (kvs ++ more))) := by
  show bnd (methK mUpdate (.loc k)) (fun _ => bnd (ret [.dict more]) fun ds => mUpdate.run (.loc k) ds) S = _
  have hok : mUpdate.ok S (.loc k) = true := by
    show isLocD S (.loc k) = true
    unfold isLocD; dsimp only; rw [h]
  rw [bnd_st (a := ()) (S1 := S) (by unfold methK; rw [if_pos hok])]
  show updM (.loc k) (.dict more) S = _
  unfold updM
  dsimp only
  rw [h]
  show (if decide (kvs.length + more.length ≤ 1000) && decide ((kvs ++ more).map (·.1)).Nodup then Out.ok D.none (setS S k (.dict (kvs ++ more))) else .stuck) = _
  rw [if_pos (by rw [decide_eq_true hz, decide_eq_true hn]; rfl)]
  rfl
theorem get_loc {k : Nat} {kvs : List (Str × D)} {x : Str} {d : D} (h : S[k]? = some (.dict kvs)) : methS mGet (ret (.loc k)) (ret [.str x, d]) S = .ok ((kvs.lookup x).getD d) S := by
  show bnd (methK mGet (.loc k)) (fun _ => bnd (ret [.str x, d]) fun ds => mGet.run (.loc k) ds) S = _
  have e : dictOf S (.loc k) = some kvs := by unfold dictOf; dsimp only; rw [h]
  have hok : mGet.ok S (.loc k) = true := by
    show (dictOf S (.loc k)).isSome = true
    rw [e]; rfl
  rw [bnd_st (a := ()) (S1 := S) (by unfold methK; rw [if_pos hok])]
  show (match dictOf S (.loc k) with
    | some kvs => ret ((kvs.lookup x).getD d) S
    | none => .stuck) = _
  rw [e]; rfl
theorem fin_if_st {m : EM Bool} {x y : EM Fl} {k : Sg → EM Fl} {b : Bool} {S1 : Store} (h : m S = .ok b S1) : finM (seqM (ifM m x y) k) S = finM (seqM (if b then x else y) k) S1 := by
  have q := ifM_st (x := x) (y := y) h
  generalize ifM m x y = a at q
  unfold finM seqM bnd
  rw [q]
noncomputable abbrev sgL (r : D) (n k : Nat) (row : Option D) : Sg := [some r, some (.int n), some (.loc k), row, none, none, none]
theorem rng_comp {u : List Int} {turn : D → EM (Option D)} (ht : ∀ i : Int, turn (.int i) = turnS (ret true) (bnd (ret (.int 0)) fun z0 => bnd (chainS .LtE z0 (ret (.int i)) fun z1 => chain1 .Lt z1 (ret (.int n))) fun c => ret (.bool c))) :
    comp0 (ret (.tuple (u.map .int))) turn = ret (.list (u.map fun i => D.bool (inRng n i))) := by
  show bnd (compL turn (u.map D.int)) (fun ys => mkList cfg0 pos0 ys) = _
  rw [compL_enc (g := fun i => D.bool (inRng n i)) u fun i hi => ?_]
  · rfl
  · rw [ht]
    simp -implicitDefEqProofs only [bnd_ret, chainS_ret, chain1_ret, le_ints', lt_ints]
    unfold inRng
    cases decide (0 ≤ i) <;> rfl
theorem law_follows_ok (h : CfR cf) (hl : listOf S r = some (rows.map encR)) (hn : n < rows.length) (hr : ∀ x ∈ rows, RwOk x) : s__law_follows cf r (.int n) S = .ok (.bool (fol rows n)) (S ++ [.dict cntL]) := by
  unfold s__law_follows b__law_follows_9
  have hrow := row_ok hr hn
  have hl1 := listOf_grow [.dict cntL] hl
  have e0 := item_at hl1 (row_at hn)
  rw [fol_eq _ rfl]
  generalize (rows[n]?).getD rw0 = row at hrow e0
  rw [go_st (S1 := S ++ [.dict cnt1]) (σ := sgL r n S.length none) (by
    show bnd (mkD true cnt1) (fun d => ret (Fl.next (put [some r, some (.int n), none, none, none, none, none] 2 d))) S = _
    rw [bnd_st (m := mkD true cnt1) (S := S) (a := D.loc S.length) (S1 := S ++ [.dict cnt1]) rfl]; rfl)]
  unfold b__law_follows_8
  rw [go_st (S1 := S ++ [.dict cntL]) (σ := sgL r n S.length none) (by
    have u := upd_loc (more := cnt2) (last_st S (.dict cnt1)) (by decide) cnt_nodup
    rw [set_st, cnt12] at u
    show bnd (methS mUpdate (ret (.loc S.length)) (ret [.dict cnt2])) (fun _ => ret (Fl.next (sgL r n S.length none))) (S ++ [.dict cnt1]) = _
    rw [bnd_st u]; rfl)]
  have hS := last_st S (.dict cntL)
  generalize S ++ [.dict cntL] = S1 at *
  unfold b__law_follows_7
  rw [go_st (S1 := S1) (σ := sgL r n S.length (some (encR row))) (by
    show bnd (itemM r (.int n)) (fun d => ret (Fl.next (put (sgL r n S.length none) 3 d))) S1 = _
    rw [bnd_st e0]; rfl)]
  unfold b__law_follows_6
  have g := get_loc (x := row.r) (d := .int 99) hS
  unfold folR
  have fin : ∀ (b : Bool), cmpS .NotEq (methS mGet (lk (sgL r n S.length (some (encR row))) 2) (consM (subS (lk (sgL r n S.length (some (encR row))) 3) (ret (.int 2))) (consM (ret (.int 99)) (ret [])))) (bnd (consM (subS (lk (sgL r n S.length (some (encR row))) 3) (ret (.int 3))) (ret [])) fun ds => bf0 .len ds) S1 = .ok b S1 →
      finM (seqM (ifM (cmpS .NotEq (methS mGet (lk (sgL r n S.length (some (encR row))) 2) (consM (subS (lk (sgL r n S.length (some (encR row))) 3) (ret (.int 2))) (consM (ret (.int 99)) (ret [])))) (bnd (consM (subS (lk (sgL r n S.length (some (encR row))) 3) (ret (.int 3))) (ret [])) fun ds => bf0 .len ds)) (b__law_follows_5 cf (sgL r n S.length (some (encR row)))) (nxt (sgL r n S.length (some (encR row))))) (b__law_follows_4 cf)) S1 =
      finM (seqM (if b then b__law_follows_5 cf (sgL r n S.length (some (encR row))) else nxt (sgL r n S.length (some (encR row)))) (b__law_follows_4 cf)) S1 := by
    intro b hb
    exact fin_if_st hb
  have cmp : ∀ i : Int, (cntL.lookup row.r).getD (.int 99) = .int i → cmpS .NotEq (methS mGet (lk (sgL r n S.length (some (encR row))) 2) (consM (subS (lk (sgL r n S.length (some (encR row))) 3) (ret (.int 2))) (consM (ret (.int 99)) (ret [])))) (bnd (consM (subS (lk (sgL r n S.length (some (encR row))) 3) (ret (.int 3))) (ret [])) fun ds => bf0 .len ds) S1 = .ok (!(i == (row.u.length : Int))) S1 := by
    intro i hi
    rw [hi] at g
    simp -implicitDefEqProofs only [lk0, lkS, subS_ret, row2, row3, consM_ret, bnd_ret, len_u]
    unfold cmpS
    rw [bnd_st g]
    rfl
  cases hc : ruOf row.r with
  | none =>
    have c9 := cmp 99 (by rw [cnt_none hc]; rfl)
    rw [fin _ c9]
    have : ((99 : Int) == (row.u.length : Int)) = false := by
      have := hrow.u
      rw [beq_eq_false_iff_ne]; omega
    rw [this]; rfl
  | some c =>
    have hrc := ruOf_inv hc
    have c9 := cmp c.cnt (by rw [hrc, cnt_some c]; rfl)
    rw [fin _ c9]
    have hi : ((c.cnt : Int) == (row.u.length : Int)) = decide (row.u.length = c.cnt) := by
      rw [Bool.eq_iff_iff]; simp; omega
    rw [hi]
    show _ = Out.ok (D.bool (decide (row.u.length = c.cnt) && (row.u.all (inRng n) && ruled row.g row.s c (upsOf rows row.u)))) S1
    cases hd : decide (row.u.length = c.cnt) with
    | false => rw [Bool.false_and]; rfl
    | true =>
      rw [Bool.true_and]
      show finM (b__law_follows_4 cf (sgL r n S.length (some (encR row)))) S1 = _
      unfold b__law_follows_4
      have rc := rng_comp (n := n) (u := row.u) (turn := t__law_follows_2 cf (sgL r n S.length (some (encR row)))) fun i => rfl
      simp -implicitDefEqProofs only [lk0, lkS, subS_ret, row3, rc, consM_ret, bnd_ret, all_map, truth_bool, notM_ret]
      cases hu : row.u.all (inRng n) with
      | false => rfl
      | true =>
        simp -implicitDefEqProofs only [Bool.not_true, ifM_false, nxt_eq, seqM_next, Bool.true_and]
        unfold b__law_follows_1
        have cm := ups_comp (turn := t__law_follows_0 cf (sgL r n S.length (some (encR row)))) hl1 hn hu fun i => rfl
        have hlen : (upsOf rows row.u).length = c.cnt := by unfold upsOf; rw [List.length_map]; exact of_decide_eq_true hd
        have rl := h.up row c (upsOf rows row.u) hrc hrow.s (ups_ok hr hn hu) hlen
        refine fin_st (seq_ret_st ?_)
        simp -implicitDefEqProofs only [lk0, lkS, subS_ret, row3]
        show bnd (bnd (bnd (ret (encR row)) fun d => bnd (bnd (comp0 (ret (.tuple (row.u.map .int))) (t__law_follows_0 cf (sgL r n S.length (some (encR row))))) fun d => bnd (ret []) fun ds => ret (d :: ds)) fun ds => ret (d :: ds)) fun ds => cf (Str.ofString "_law_ups_right") ds) (fun d => ret (Fl.ret d)) S1 = _
        simp -implicitDefEqProofs only [bnd_ret, bnd_assoc]
        rw [bnd_st cm, rl]; rfl
end
end Mine
end

section
set_option linter.unusedSimpArgs false
set_option maxRecDepth 100000
set_option maxHeartbeats 1000000
namespace Mine
open PySem
theorem lt2 : ∀ k, k < 2 → k = 0 ∨ k = 1 := by decide
theorem lt3 : ∀ k, k < 3 → k = 0 ∨ k = 1 ∨ k = 2 := by decide
theorem lt4 : ∀ k, k < 4 → k = 0 ∨ k = 1 ∨ k = 2 ∨ k = 3 := by decide
theorem lt9 : ∀ k, k < 9 → k = 0 ∨ k = 1 ∨ k = 2 ∨ k = 3 ∨ k = 4 ∨ k = 5 ∨ k = 6 ∨ k = 7 ∨ k = 8 := by decide
theorem lt10 : ∀ k, k < 10 → k = 0 ∨ k = 1 ∨ k = 2 ∨ k = 3 ∨ k = 4 ∨ k = 5 ∨ k = 6 ∨ k = 7 ∨ k = 8 ∨ k = 9 := by decide
/-- a row that was spoilt at most k times -/
structure Sp (k : Nat) (r : Rw) : Prop where
  g : ∀ x ∈ r.g, x.dep ≤ 10
  gl : r.g.length ≤ 10 + k
  s : r.s.dep ≤ 10
  u : r.u.length ≤ 5 + k
  a : asciiS r.r = true
  l : r.r.length ≤ 10 * 4 ^ k
theorem Sp.mono {k : Nat} {r : Rw} (h : Sp k r) : Sp (k + 1) r :=
  ⟨h.g, Nat.le_succ_of_le h.gl, h.s, Nat.le_succ_of_le h.u, h.a, Nat.le_trans h.l (Nat.mul_le_mul_left _ (Nat.pow_le_pow_right (by decide) (Nat.le_succ k)))⟩
theorem Sp.ok {k : Nat} {r : Rw} (h : Sp k r) (hk : k ≤ 4) : RwOk r := ⟨fun x hx => Nat.le_trans (h.g x hx) (by decide), Nat.le_trans h.s (by decide), Nat.le_trans h.u (by omega)⟩
theorem lst3' (a b c : D) : lst0 (ret [a, b, c]) = ret (.list [a, b, c]) := lst0_ret _ (by simp)
theorem tup4' (a b c d : D) : tupM (ret [a, b, c, d]) = ret (.tuple [a, b, c, d]) := tupM_ret _ (by simp)
theorem ret2 {X : EM D} {d : D} (h : X = ret d) (k : Sg → EM Fl) : finM (seqM (seqM (bnd X fun d => ret (.ret d)) nxt) k) = ret d := by rw [h]; rfl
theorem ret1 {X : EM D} {d : D} (h : X = ret d) : finM (seqM (bnd X fun d => ret (.ret d)) nxt) = ret d := by rw [h]; rfl
theorem usub1 : (bnd (ret (.int 1)) fun a => unop .USub a) = ret (.int (-1)) := rfl
theorem cut_map {α β : Type} (f : α → β) (lo hi : Option Int) (l : List α) : cut lo hi (l.map f) = (cut lo hi l).map f := by
  unfold cut
  rw [List.length_map, List.map_take, List.map_drop]
theorem it3 {p : D → Prop} (a b c : D) (k : Nat) (hk : k < 3) (ha : p a) (hb : p b) (hc : p c) : ∃ d, p d ∧ itemM (.list [a, b, c]) (.int k) = ret d := by
  have := lt3 k hk
  rcases this with rfl | rfl | rfl
  · exact ⟨a, ha, rfl⟩
  · exact ⟨b, hb, rfl⟩
  · exact ⟨c, hc, rfl⟩
theorem it4 {p : D → Prop} (a b c e : D) (k : Nat) (hk : k < 4) (ha : p a) (hb : p b) (hc : p c) (he : p e) : ∃ d, p d ∧ itemM (.list [a, b, c, e]) (.int k) = ret d := by
  have := lt4 k hk
  rcases this with rfl | rfl | rfl | rfl
  · exact ⟨a, ha, rfl⟩
  · exact ⟨b, hb, rfl⟩
  · exact ⟨c, hc, rfl⟩
  · exact ⟨e, he, rfl⟩
theorem w3s (k : Nat) (hk : k < 3) : ∃ w : W3, itemM (.list [.str (Str.ofString "and"), .str (Str.ofString "or"), .str (Str.ofString "then")]) (.int k) = ret (.str w.s) := by
  have := lt3 k hk
  rcases this with rfl | rfl | rfl
  · exact ⟨.a, rfl⟩
  · exact ⟨.o, rfl⟩
  · exact ⟨.t, rfl⟩
/-- a coded small statement -/
noncomputable def Sm (n : Nat) (d : D) : Prop := ∃ s : Sx, s.dep ≤ n ∧ d = enc s
namespace L08
structure CfN (cf : Str → List D → EM D) : Prop where
  nm : ∀ (sd : Int) (k : Nat), k ≤ 10 → ∃ x : Str, cf (Str.ofString "_law_name_by") [.int sd, .int k] = ret (.str x)
section
variable {cf : Str → List D → EM D}
theorem part_by_ok (h : CfN cf) (sd c : Int) : ∃ s : Sx, s.dep ≤ 3 ∧ s__law_part_by cf (.int sd) (.int c) = ret (enc s) := by
  obtain ⟨k, hk, ek⟩ := fmod_lit c 3 3 (by decide) rfl
  obtain ⟨k4, hk4, ek4⟩ := fmod_lit (c.fdiv 3) 4 4 (by decide) rfl
  obtain ⟨k12, hk12, ek12⟩ := fmod_lit (c.fdiv 12) 3 3 (by decide) rfl
  obtain ⟨k36, hk36, ek36⟩ := fmod_lit (c.fdiv 36) 3 3 (by decide) rfl
  obtain ⟨k108, hk108, ek108⟩ := fmod_lit (c.fdiv 108) 3 3 (by decide) rfl
  obtain ⟨x, hx⟩ := h.nm sd k (by omega)
  obtain ⟨y, hy⟩ := h.nm sd k12 (by omega)
  unfold s__law_part_by b__law_part_by_6
  simp -implicitDefEqProofs only [lk0, lkS, binS_ret, mod_ints _ 3 (by decide), ek, consM_ret, callN_ret, hx, calm_ret, tup2, bnd_ret, put0, putS, seqM_next]
  unfold b__law_part_by_5
  simp -implicitDefEqProofs only [lk0, lkS, binS_ret, div_ints _ 3 (by decide), mod_ints _ 4 (by decide), ek4, cmpS_ret, cmp_eq, eqM_int]
  cases ((k4 : Int) == 0) with
  | true => exact ⟨.nm x, by simp [Sx.dep], rfl⟩
  | false =>
    simp -implicitDefEqProofs only [ifM_false, nxt_eq, seqM_next]
    unfold b__law_part_by_3
    simp -implicitDefEqProofs only [lk0, lkS, binS_ret, div_ints _ 3 (by decide), mod_ints _ 4 (by decide), ek4, cmpS_ret, cmp_eq, eqM_int]
    cases ((k4 : Int) == 1) with
    | true => exact ⟨.fls, by simp [Sx.dep], rfl⟩
    | false =>
      simp -implicitDefEqProofs only [ifM_false, nxt_eq, seqM_next]
      unfold b__law_part_by_1
      obtain ⟨d, ⟨s, hs, rfl⟩, ed⟩ := it3 (p := Sm 2) (.tuple [.str (Str.ofString "false")]) (.tuple [.str (Str.ofString "name"), .str y]) (.tuple [.str (Str.ofString "or"), .tuple [.str (Str.ofString "name"), .str x], .tuple [.str (Str.ofString "false")]]) k36 hk36
        ⟨.fls, by simp [Sx.dep], rfl⟩ ⟨.nm y, by simp [Sx.dep], rfl⟩ ⟨.bin .o (.nm x) .fls, by simp [Sx.dep], rfl⟩
      simp -implicitDefEqProofs only [lk0, lkS, binS_ret, div_ints _ 12 (by decide), div_ints _ 36 (by decide), mod_ints _ 3 (by decide), ek12, ek36, consM_ret, callN_ret, hy, calm_ret, tup1, tup2, tup3, lst3', subS_ret, ed, bnd_ret, put0, putS, seqM_next]
      unfold b__law_part_by_0
      obtain ⟨w, ew⟩ := w3s k108 hk108
      refine ⟨.bin w (.nm x) s, by show max 1 s.dep + 1 ≤ 3; omega, ret1 ?_⟩
      simp -implicitDefEqProofs only [lk0, lkS, binS_ret, div_ints _ 108 (by decide), mod_ints _ 3 (by decide), ek108, consM_ret, lst3', subS_ret, ew, tup3]
      rfl
/-- tuples of ints -/
theorem sliU1 (u : List Int) (i : Int) : sli0 (.tuple (u.map .int)) .none (.int i) = ret (.tuple ((cut none (some i) u).map .int)) := by
  rw [← cut_map]; rfl
theorem sliU2 (u : List Int) (i : Int) : sli0 (.tuple (u.map .int)) (.int i) .none = ret (.tuple ((cut (some i) none u).map .int)) := by
  rw [← cut_map]; rfl
theorem add_tups (x y : List D) (h : x.length + y.length ≤ 1000) : bin0 .Add (.tuple x) (.tuple y) = ret (.tuple (x ++ y)) := by
  show (if x.length + y.length ≤ sizeLine then ret (D.tuple (x ++ y)) else stk) = _
  rw [if_pos (Nat.le_trans h (by decide))]
theorem addU (x y : List Int) (h : x.length + y.length ≤ 1000) : bin0 .Add (.tuple (x.map .int)) (.tuple (y.map .int)) = ret (.tuple ((x ++ y).map .int)) := by
  rw [add_tups _ _ (by rw [List.length_map, List.length_map]; exact h), List.map_append]
theorem addU1 (x : List Int) (i : Int) (h : x.length ≤ 900) : bin0 .Add (.tuple (x.map .int)) (.tuple [.int i]) = ret (.tuple ((x ++ [i]).map .int)) := addU x [i] (by simp; omega)
theorem sub_ints (i j : Int) : bin0 .Sub (.int i) (.int j) = ret (.int (i - j)) := rfl
theorem wrong_ups_ok (u : List Int) (hu : u.length ≤ 100) (c : Int) (n m : Nat) : ∃ u' : List Int, u'.length ≤ u.length + 1 ∧ s__law_wrong_ups cf (.tuple (u.map .int)) (.int c) (.int n) (.int m) = ret (.tuple (u'.map .int)) := by
  unfold s__law_wrong_ups b__law_wrong_ups_6
  have hn1 : ((n : Int) + 1) ≠ 0 := by omega
  obtain ⟨k3, hk3, ek3⟩ := fmod_lit c 3 3 (by decide) rfl
  obtain ⟨k8, hk8, ek8⟩ := fmod_lit (c.fdiv 9) 8 8 (by decide) rfl
  simp -implicitDefEqProofs only [lk0, lkS, consM_ret, bnd_ret, len_u, cmpS_ret, cmp_eq, eqM_int, binS_ret, mod_ints _ 3 (by decide), ek3, orM_rr, Bool.or_false]
  cases hc : (((u.length : Int) == 0) || ((k3 : Int) == 0)) with
  | true =>
    simp -implicitDefEqProofs only [ifM_true]
    unfold b__law_wrong_ups_5
    refine ⟨u ++ [(c.fdiv 3).fmod ((n : Int) + 1)], by simp, ret2 ?_ _⟩
    simp -implicitDefEqProofs only [lk0, lkS, binS_ret, div_ints _ 3 (by decide), add_ints, mod_ints _ ((n : Int) + 1) hn1, consM_ret, tup1]
    exact addU1 u _ (by omega)
  | false =>
    have hp : 0 < u.length := by
      rw [Bool.or_eq_false_iff, beq_eq_false_iff_ne] at hc
      have := hc.1
      omega
    obtain ⟨k, hk, ek⟩ := fmod_lit (c.fdiv 3) u.length u.length hp rfl
    simp -implicitDefEqProofs only [ifM_false, nxt_eq, seqM_next]
    unfold b__law_wrong_ups_4
    simp -implicitDefEqProofs only [lk0, lkS, consM_ret, bnd_ret, len_u, binS_ret, div_ints _ 3 (by decide), mod_ints _ (u.length : Int) (by omega), ek, put0, putS, seqM_next]
    unfold b__law_wrong_ups_3
    have h1 := cut_len none (some (k : Int)) u
    have h2 := cut_len (some ((k : Int) + 1)) none u
    have h1' := cut_le none k u
    have h2' : (cut (some ((k : Int) + 1)) none u).length = u.length - (k + 1) := by
      have := cut_from (k := k + 1) (l := u) (by omega)
      rw [show ((k + 1 : Nat) : Int) = (k : Int) + 1 from by omega] at this
      rw [this, List.length_drop]
    simp -implicitDefEqProofs only [lk0, lkS, binS_ret, mod_ints _ 3 (by decide), ek3, cmpS_ret, cmp_eq, eqM_int]
    cases ((k3 : Int) == 1) with
    | true =>
      simp -implicitDefEqProofs only [ifM_true]
      unfold b__law_wrong_ups_2
      refine ⟨cut none (some (k : Int)) u ++ cut (some ((k : Int) + 1)) none u, by rw [List.length_append]; omega, ret2 ?_ _⟩
      simp -implicitDefEqProofs only [lk0, lkS, sliS_ret, sliU1, binS_ret, add_ints, sliU2]
      exact addU _ _ (by omega)
    | false =>
      simp -implicitDefEqProofs only [ifM_false, nxt_eq, seqM_next]
      unfold b__law_wrong_ups_1
      have iu : itemM (.tuple (u.map .int)) (.int (k : Int)) = ret (.int u[k]) := itemT_at (by rw [List.getElem?_map, List.getElem?_eq_getElem hk]; rfl)
      have lst8 : ∀ a b c d e f g h : D, lst0 (ret [a, b, c, d, e, f, g, h]) = ret (.list [a, b, c, d, e, f, g, h]) := fun _ _ _ _ _ _ _ _ => lst0_ret _ (by simp)
      have pw : bin0 .Pow (.int 10) (.int 12) = ret (.int (10 ^ 12)) := rfl
      simp -implicitDefEqProofs only [lk0, lkS, usub1, binS_ret, add_ints, subS_ret, iu, sub_ints, div_ints _ 9 (by decide), mod_ints _ ((n : Int) + 1) hn1, pw, consM_ret, lst8]
      simp -implicitDefEqProofs only [bnd_ret, put0, putS, seqM_next]
      unfold b__law_wrong_ups_0
      have it8 : ∀ is : List Int, is.length = 8 → ∃ i : Int, itemM (.list (is.map D.int)) (.int (k8 : Int)) = ret (.int i) := fun is his => ⟨is[k8]'(by omega), itemL_at (by rw [List.getElem?_map, List.getElem?_eq_getElem (by omega)]; rfl)⟩
      obtain ⟨i, ei⟩ := it8 [(n : Int), (n : Int) + 1, u[k] - (m : Int), u[k] - 1, (c.fdiv 9).fmod ((n : Int) + 1), 10 ^ 12, (m : Int), -1] rfl
      have ei' : itemM (.list [D.int (n : Int), D.int ((n : Int) + 1), D.int (u[k] - (m : Int)), D.int (u[k] - 1), D.int ((c.fdiv 9).fmod ((n : Int) + 1)), D.int (10 ^ 12), D.int (m : Int), D.int (-1)]) (.int (k8 : Int)) = ret (.int i) := ei
      refine ⟨cut none (some (k : Int)) u ++ [i] ++ cut (some ((k : Int) + 1)) none u, by simp only [List.length_append, List.length_cons, List.length_nil]; omega, ret1 ?_⟩
      simp -implicitDefEqProofs only [lk0, lkS, sliS_ret, sliU1, binS_ret, div_ints _ 9 (by decide), mod_ints _ 8 (by decide), ek8, subS_ret, ei', consM_ret, tup1, add_ints, sliU2]
      rw [addU1 _ i (by omega)]
      simp -implicitDefEqProofs only [binS_ret]
      exact addU _ _ (by simp only [List.length_append, List.length_cons, List.length_nil]; omega)
end
end L08
end Mine
end

section
set_option linter.unusedSimpArgs false
set_option maxRecDepth 100000
set_option maxHeartbeats 1000000
namespace Mine
open PySem
theorem ascii_app (x y : Str) : asciiS (x ++ y) = (asciiS x && asciiS y) := by
  unfold asciiS
  show (x.cps ++ y.cps).all _ = _
  rw [Array.all_append]
theorem ascii_list {x : Str} : asciiS x = true ↔ ∀ c ∈ x.cps.toList, c < 128 := by
  unfold asciiS
  rw [Array.all_eq_true']
  constructor
  · intro h c hc; exact of_decide_eq_true (h c (Array.mem_toList_iff.mp hc))
  · intro h c hc; exact decide_eq_true (h c (Array.mem_toList_iff.mpr hc))
theorem ascii_cut {x : Str} (lo hi : Option Int) (h : asciiS x = true) : asciiS ⟨(cut lo hi x.cps.toList).toArray⟩ = true := by
  rw [ascii_list] at *
  intro c hc
  exact h c (cut_mem (by simpa using hc))
theorem len_cutS {x : Str} (lo hi : Option Int) : (⟨(cut lo hi x.cps.toList).toArray⟩ : Str).length ≤ x.length := by
  show (cut lo hi x.cps.toList).toArray.size ≤ x.cps.size
  have := cut_len lo hi x.cps.toList
  simpa using this
theorem up_ret {x : Str} (h : asciiS x = true) (hl : x.length ≤ 10000) : methS mUpper (ret (.str x)) (ret []) = ret (.str (Txt.upper x)) := by
  show upM x = _
  unfold upM
  rw [if_pos (by rw [h, decide_eq_true hl]; rfl)]
theorem add_strs' (x y : Str) (h : x.length + y.length ≤ 100000) : bin0 .Add (.str x) (.str y) = ret (.str (x ++ y)) := by
  show (if x.length + y.length ≤ sizeLine then ret (D.str (x ++ y)) else stk) = _
  rw [if_pos (Nat.le_trans h (by decide))]
namespace L08
noncomputable def ruL : List Str := [Str.ofString "given", Str.ofString "both", Str.ofString "left", Str.ofString "right", Str.ofString "one", Str.ofString "other", Str.ofString "cases", Str.ofString "suppose", Str.ofString "onward", Str.ofString "any", Str.ofString "", Str.ofString "Given"]
/-- a rule's word after k spoils -/
noncomputable def Wd (k : Nat) (x : Str) : Prop := asciiS x = true ∧ x.length ≤ 10 * 4 ^ k
theorem ruL_all : ruL.all (fun x => asciiS x && decide (x.length ≤ 10)) = true := by decide +kernel
theorem ruL_ok (k : Nat) : ∀ x ∈ ruL, Wd k x := fun x hx => by
  have := List.all_eq_true.mp ruL_all x hx
  rw [Bool.and_eq_true, decide_eq_true_eq] at this
  exact ⟨this.1, Nat.le_trans this.2 (Nat.le_mul_of_pos_right _ (Nat.pow_pos (by decide)))⟩
noncomputable def ruM (r : Str) : List Str := [r ++ Str.ofString " ", Str.ofString " " ++ r, ⟨(cut none (some (-1)) r.cps.toList).toArray⟩, r ++ Str.ofString "s", Txt.upper r, ⟨(cut (some 1) none r.cps.toList).toArray⟩]
theorem ruM_ok {k : Nat} {r : Str} (h : Wd k r) : ∀ x ∈ ruM r, Wd (k + 1) x := by
  obtain ⟨ha, hl⟩ := h
  have hp : 0 < 4 ^ k := Nat.pow_pos (by decide)
  have e : 10 * 4 ^ (k + 1) = 40 * 4 ^ k := by rw [Nat.pow_succ]; omega
  have s1 : asciiS (Str.ofString " ") = true := by decide +kernel
  have s2 : asciiS (Str.ofString "s") = true := by decide +kernel
  have l1 : (Str.ofString " ").length = 1 := by decide +kernel
  have l2 : (Str.ofString "s").length = 1 := by decide +kernel
  intro x hx
  unfold ruM at hx
  simp only [List.mem_cons, List.not_mem_nil, or_false] at hx
  rcases hx with rfl | rfl | rfl | rfl | rfl | rfl
  · exact ⟨by rw [ascii_app, ha, s1]; rfl, by rw [app_len, l1]; omega⟩
  · exact ⟨by rw [ascii_app, ha, s1]; rfl, by rw [app_len, l1]; omega⟩
  · exact ⟨ascii_cut _ _ ha, by have := len_cutS (x := r) none (some (-1)); omega⟩
  · exact ⟨by rw [ascii_app, ha, s2]; rfl, by rw [app_len, l2]; omega⟩
  · exact ⟨upper_ascii ha, by have := PyProof.Rows.len_upper r; omega⟩
  · exact ⟨ascii_cut _ _ ha, by have := len_cutS (x := r) (some 1) none; omega⟩
noncomputable abbrev sgP (r : Rw) (c : Int) (n m : Nat) (part : Sx) (w so : Int) : Sg := [some (encR r), some (.int c), some (.int n), some (.int m), some (enc part), some (.int w), some (.int so), some (.tuple (r.g.map enc)), some (enc r.s), some (.str r.r), some (.tuple (r.u.map .int)), none, none, none, none, none, none]
noncomputable def Res (k : Nat) (X : EM D) : Prop := ∃ r' : Rw, X = ret (encR r') ∧ Sp (k + 1) r'
theorem len_g (g : List Sx) : bf0 .len [.tuple (g.map enc)] = ret (.int g.length) := by rw [len_tup', List.length_map]
theorem sliG1 (u : List Sx) (i : Int) : sli0 (.tuple (u.map enc)) .none (.int i) = ret (.tuple ((cut none (some i) u).map enc)) := by
  rw [← cut_map]; rfl
theorem sliG2 (u : List Sx) (i : Int) : sli0 (.tuple (u.map enc)) (.int i) .none = ret (.tuple ((cut (some i) none u).map enc)) := by
  rw [← cut_map]; rfl
theorem addG (x y : List Sx) (h : x.length + y.length ≤ 1000) : bin0 .Add (.tuple (x.map enc)) (.tuple (y.map enc)) = ret (.tuple ((x ++ y).map enc)) := by
  rw [add_tups _ _ (by rw [List.length_map, List.length_map]; exact h), List.map_append]
theorem addG1 (x : List Sx) (y : Sx) (h : x.length ≤ 900) : bin0 .Add (.tuple (x.map enc)) (.tuple [enc y]) = ret (.tuple ((x ++ [y]).map enc)) := addG x [y] (by simp; omega)
theorem revS_u (u : List Int) : revS (ret (.tuple (u.map .int))) = ret (.tuple (u.reverse.map .int)) := by
  show ret (D.tuple (u.map D.int).reverse) = _
  rw [List.map_reverse]
section
variable {cf : Str → List D → EM D}
theorem sp0 (hw : ∀ (u : List Int) (c : Int) (n m : Nat), u.length ≤ 100 → ∃ u' : List Int, u'.length ≤ u.length + 1 ∧ cf (Str.ofString "_law_wrong_ups") [.tuple (u.map .int), .int c, .int n, .int m] = ret (.tuple (u'.map .int))) (r : Rw) (k : Nat) (hk : k ≤ 3) (hr : Sp k r) (c : Int) (n m : Nat) (part : Sx) (hp : part.dep ≤ 3) (so : Int) : Res k (finM (b__law_spoilt_19 cf (sgP r c n m part 0 so))) := by
  unfold b__law_spoilt_19
  simp -implicitDefEqProofs only [lk0, lkS, cmpS_ret, cmp_eq, eqM_int, consM_ret, bnd_ret, len_g, gt_ints, andM_rr, show ((0 : Int) == 0) = true from rfl, Bool.true_and, Bool.and_true]
  cases hd : decide ((0 : Int) < (r.g.length : Int)) with
  | true =>
    have hp : 0 < r.g.length := by have := of_decide_eq_true hd; omega
    obtain ⟨j, hj, ej⟩ := fmod_lit so r.g.length r.g.length hp rfl
    simp -implicitDefEqProofs only [ifM_true]
    unfold b__law_spoilt_18
    have h1 := cut_len none (some (j : Int)) r.g
    have h2 := cut_len (some ((j : Int) + 1)) none r.g
    have h1' := cut_le none j r.g
    have h2' : (cut (some ((j : Int) + 1)) none r.g).length = r.g.length - (j + 1) := by
      have := cut_from (k := j + 1) (l := r.g) (by omega)
      rw [show ((j + 1 : Nat) : Int) = (j : Int) + 1 from by omega] at this
      rw [this, List.length_drop]
    refine ⟨⟨cut none (some (j : Int)) r.g ++ cut (some ((j : Int) + 1)) none r.g, r.s, r.r, r.u⟩, ret2 ?_ _, ⟨fun x hx => ?_, ?_, hr.s, hr.mono.u, hr.a, hr.mono.l⟩⟩
    · simp -implicitDefEqProofs only [lk0, lkS, consM_ret, bnd_ret, len_g, binS_ret, mod_ints _ (r.g.length : Int) (by omega), ej, add_ints, sliS_ret, sliG1, sliG2]
      rw [addG _ _ (by have := hr.gl; omega)]
      simp -implicitDefEqProofs only [consM_ret, tup4']
      rfl
    · rcases List.mem_append.mp hx with q | q
      · exact hr.g x (cut_mem q)
      · exact hr.g x (cut_mem q)
    · show (cut none (some (j : Int)) r.g ++ cut (some ((j : Int) + 1)) none r.g).length ≤ _
      rw [List.length_append]; have := hr.gl; omega
  | false =>
    simp -implicitDefEqProofs only [ifM_false, nxt_eq, seqM_next]
    unfold b__law_spoilt_17
    simp -implicitDefEqProofs only [lk0, lkS, cmpS_ret, cmp_eq, eqM_int, show ((0 : Int) == 1) = false from rfl, ifM_false, nxt_eq, seqM_next]
    unfold b__law_spoilt_15
    simp -implicitDefEqProofs only [lk0, lkS, cmpS_ret, cmp_eq, eqM_int, show ((0 : Int) == 2) = false from rfl, ifM_false, nxt_eq, seqM_next]
    unfold b__law_spoilt_11
    simp -implicitDefEqProofs only [lk0, lkS, cmpS_ret, lt_ints, show decide ((0 : Int) < 5) = true from rfl, ifM_true]
    obtain ⟨u', hu', eu⟩ := hw r.u so n m (by have := hr.u; omega)
    unfold b__law_spoilt_10
    refine ⟨⟨r.g, r.s, r.r, u'⟩, ret2 ?_ _, ⟨hr.mono.g, hr.mono.gl, hr.s, by show u'.length ≤ _; have := hr.u; omega, hr.a, hr.mono.l⟩⟩
    simp -implicitDefEqProofs only [lk0, lkS, consM_ret, callN_ret, eu, calm_ret, tup4']
    rfl
theorem sp1 (r : Rw) (k : Nat) (hk : k ≤ 3) (hr : Sp k r) (c : Int) (n m : Nat) (part : Sx) (hp : part.dep ≤ 3) (so : Int) : Res k (finM (b__law_spoilt_19 cf (sgP r c n m part 1 so))) := by
  unfold b__law_spoilt_19
  simp -implicitDefEqProofs only [lk0, lkS, cmpS_ret, cmp_eq, eqM_int, consM_ret, bnd_ret, len_g, gt_ints, andM_rr, show ((1 : Int) == 0) = false from rfl, Bool.false_and, ifM_false, nxt_eq, seqM_next]
  unfold b__law_spoilt_17
  simp -implicitDefEqProofs only [lk0, lkS, cmpS_ret, cmp_eq, eqM_int, show ((1 : Int) == 1) = true from rfl, ifM_true]
  unfold b__law_spoilt_16
  refine ⟨⟨r.g, part, r.r, r.u⟩, ret2 ?_ _, ⟨hr.mono.g, hr.mono.gl, by show part.dep ≤ 10; omega, hr.mono.u, hr.a, hr.mono.l⟩⟩
  simp -implicitDefEqProofs only [lk0, lkS, consM_ret, tup4']
  rfl
theorem sp2 (r : Rw) (k : Nat) (hk : k ≤ 3) (hr : Sp k r) (c : Int) (n m : Nat) (part : Sx) (hp : part.dep ≤ 3) (so : Int) : Res k (finM (b__law_spoilt_19 cf (sgP r c n m part 2 so))) := by
  unfold b__law_spoilt_19
  simp -implicitDefEqProofs only [lk0, lkS, cmpS_ret, cmp_eq, eqM_int, consM_ret, bnd_ret, len_g, gt_ints, andM_rr, show ((2 : Int) == 0) = false from rfl, Bool.false_and, ifM_false, nxt_eq, seqM_next]
  unfold b__law_spoilt_17
  simp -implicitDefEqProofs only [lk0, lkS, cmpS_ret, cmp_eq, eqM_int, show ((2 : Int) == 1) = false from rfl, ifM_false, nxt_eq, seqM_next]
  unfold b__law_spoilt_15
  simp -implicitDefEqProofs only [lk0, lkS, cmpS_ret, cmp_eq, eqM_int, show ((2 : Int) == 2) = true from rfl, ifM_true]
  unfold b__law_spoilt_14
  have lst12 : ∀ a b c d e f g h i j k l : D, lst0 (ret [a, b, c, d, e, f, g, h, i, j, k, l]) = ret (.list [a, b, c, d, e, f, g, h, i, j, k, l]) := fun _ _ _ _ _ _ _ _ _ _ _ _ => lst0_ret _ (by simp)
  have lst6 : ∀ a b c d e f : D, lst0 (ret [a, b, c, d, e, f]) = ret (.list [a, b, c, d, e, f]) := fun _ _ _ _ _ _ => lst0_ret _ (by simp)
  have hl : r.r.length ≤ 10000 := Nat.le_trans hr.l (by have : 4 ^ k ≤ 4 ^ 3 := Nat.pow_le_pow_right (by decide) hk; omega)
  have l1 : (Str.ofString " ").length = 1 := by decide +kernel
  have l2 : (Str.ofString "s").length = 1 := by decide +kernel
  simp -implicitDefEqProofs only [lk0, lkS, consM_ret, lst12, bnd_ret, put0, putS, seqM_next, seqM_bnd]
  unfold b__law_spoilt_13
  have q1 : bin0 .Add (.str r.r) (.str (Str.ofString " ")) = _ := add_strs' r.r (Str.ofString " ") (by rw [l1]; omega)
  have q2 : bin0 .Add (.str (Str.ofString " ")) (.str r.r) = _ := add_strs' (Str.ofString " ") r.r (by rw [l1]; omega)
  have q3 : bin0 .Add (.str r.r) (.str (Str.ofString "s")) = _ := add_strs' r.r (Str.ofString "s") (by rw [l2]; omega)
  have q4 : sli0 (.str r.r) .none (.int (-1)) = ret (.str ⟨(cut none (some (-1)) r.r.cps.toList).toArray⟩) := rfl
  have q5 : sli0 (.str r.r) (.int 1) .none = ret (.str ⟨(cut (some 1) none r.r.cps.toList).toArray⟩) := rfl
  have q6 : bin0 .Add (.list (ruL.map D.str)) (.list ((ruM r.r).map D.str)) = ret (.list ((ruL ++ ruM r.r).map D.str)) := by
    rw [add_lsts _ _ (by simp [ruL, ruM]), List.map_append]
  simp -implicitDefEqProofs only [lk0, lkS, usub1, binS_ret, q1, q2, q3, sliS_ret, q4, q5, up_ret hr.a hl, consM_ret, lst6]
  rw [show bin0 .Add (.list [D.str (Str.ofString "given"), D.str (Str.ofString "both"), D.str (Str.ofString "left"), D.str (Str.ofString "right"), D.str (Str.ofString "one"), D.str (Str.ofString "other"), D.str (Str.ofString "cases"), D.str (Str.ofString "suppose"), D.str (Str.ofString "onward"), D.str (Str.ofString "any"), D.str (Str.ofString ""), D.str (Str.ofString "Given")]) (.list [D.str (r.r ++ Str.ofString " "), D.str (Str.ofString " " ++ r.r), D.str ⟨(cut none (some (-1)) r.r.cps.toList).toArray⟩, D.str (r.r ++ Str.ofString "s"), D.str (Txt.upper r.r), D.str ⟨(cut (some 1) none r.r.cps.toList).toArray⟩]) = _ from q6]
  simp -implicitDefEqProofs only [bnd_ret, put0, putS, seqM_next, seqM_bnd]
  obtain ⟨j, hj, ej⟩ := fmod_lit so 18 18 (by decide) rfl
  have hlen : (ruL ++ ruM r.r).length = 18 := rfl
  have hj' : j < (ruL ++ ruM r.r).length := by rw [hlen]; exact hj
  have it : itemM (.list ((ruL ++ ruM r.r).map D.str)) (.int (j : Int)) = ret (.str (ruL ++ ruM r.r)[j]) := itemL_at (by rw [List.getElem?_map, List.getElem?_eq_getElem hj']; rfl)
  have wd : Wd (k + 1) (ruL ++ ruM r.r)[j] := by
    rcases List.mem_append.mp (List.getElem_mem hj') with q | q
    · exact ruL_ok (k + 1) _ q
    · exact ruM_ok ⟨hr.a, hr.l⟩ _ q
  generalize (ruL ++ ruM r.r)[j] = z at it wd
  unfold b__law_spoilt_12
  refine ⟨⟨r.g, r.s, z, r.u⟩, ret2 ?_ _, ⟨hr.mono.g, hr.mono.gl, hr.s, hr.mono.u, wd.1, wd.2⟩⟩
  simp -implicitDefEqProofs only [lk0, lkS, binS_ret, mod_ints _ 18 (by decide), ej, subS_ret, it, consM_ret, tup4']
  rfl
theorem sp3 (hw : ∀ (u : List Int) (c : Int) (n m : Nat), u.length ≤ 100 → ∃ u' : List Int, u'.length ≤ u.length + 1 ∧ cf (Str.ofString "_law_wrong_ups") [.tuple (u.map .int), .int c, .int n, .int m] = ret (.tuple (u'.map .int))) (r : Rw) (k : Nat) (hk : k ≤ 3) (hr : Sp k r) (c : Int) (n m : Nat) (part : Sx) (hp : part.dep ≤ 3) (so : Int) : Res k (finM (b__law_spoilt_19 cf (sgP r c n m part 3 so))) := by
  unfold b__law_spoilt_19
  simp -implicitDefEqProofs only [lk0, lkS, cmpS_ret, cmp_eq, eqM_int, consM_ret, bnd_ret, len_g, gt_ints, andM_rr, show ((3 : Int) == 0) = false from rfl, Bool.false_and, ifM_false, nxt_eq, seqM_next]
  unfold b__law_spoilt_17
  simp -implicitDefEqProofs only [lk0, lkS, cmpS_ret, cmp_eq, eqM_int, show ((3 : Int) == 1) = false from rfl, ifM_false, nxt_eq, seqM_next]
  unfold b__law_spoilt_15
  simp -implicitDefEqProofs only [lk0, lkS, cmpS_ret, cmp_eq, eqM_int, show ((3 : Int) == 2) = false from rfl, ifM_false, nxt_eq, seqM_next]
  unfold b__law_spoilt_11
  simp -implicitDefEqProofs only [lk0, lkS, cmpS_ret, cmp_eq, eqM_int, lt_ints, show decide ((3 : Int) < 5) = true from rfl, ifM_true]
  obtain ⟨u', hu', eu⟩ := hw r.u so n m (by have := hr.u; omega)
  unfold b__law_spoilt_10
  refine ⟨⟨r.g, r.s, r.r, u'⟩, ret2 ?_ _, ⟨hr.mono.g, hr.mono.gl, hr.s, by show u'.length ≤ _; have := hr.u; omega, hr.a, hr.mono.l⟩⟩
  simp -implicitDefEqProofs only [lk0, lkS, consM_ret, callN_ret, eu, calm_ret, tup4']
  rfl
theorem sp4 (hw : ∀ (u : List Int) (c : Int) (n m : Nat), u.length ≤ 100 → ∃ u' : List Int, u'.length ≤ u.length + 1 ∧ cf (Str.ofString "_law_wrong_ups") [.tuple (u.map .int), .int c, .int n, .int m] = ret (.tuple (u'.map .int))) (r : Rw) (k : Nat) (hk : k ≤ 3) (hr : Sp k r) (c : Int) (n m : Nat) (part : Sx) (hp : part.dep ≤ 3) (so : Int) : Res k (finM (b__law_spoilt_19 cf (sgP r c n m part 4 so))) := by
  unfold b__law_spoilt_19
  simp -implicitDefEqProofs only [lk0, lkS, cmpS_ret, cmp_eq, eqM_int, consM_ret, bnd_ret, len_g, gt_ints, andM_rr, show ((4 : Int) == 0) = false from rfl, Bool.false_and, ifM_false, nxt_eq, seqM_next]
  unfold b__law_spoilt_17
  simp -implicitDefEqProofs only [lk0, lkS, cmpS_ret, cmp_eq, eqM_int, show ((4 : Int) == 1) = false from rfl, ifM_false, nxt_eq, seqM_next]
  unfold b__law_spoilt_15
  simp -implicitDefEqProofs only [lk0, lkS, cmpS_ret, cmp_eq, eqM_int, show ((4 : Int) == 2) = false from rfl, ifM_false, nxt_eq, seqM_next]
  unfold b__law_spoilt_11
  simp -implicitDefEqProofs only [lk0, lkS, cmpS_ret, cmp_eq, eqM_int, lt_ints, show decide ((4 : Int) < 5) = true from rfl, ifM_true]
  obtain ⟨u', hu', eu⟩ := hw r.u so n m (by have := hr.u; omega)
  unfold b__law_spoilt_10
  refine ⟨⟨r.g, r.s, r.r, u'⟩, ret2 ?_ _, ⟨hr.mono.g, hr.mono.gl, hr.s, by show u'.length ≤ _; have := hr.u; omega, hr.a, hr.mono.l⟩⟩
  simp -implicitDefEqProofs only [lk0, lkS, consM_ret, callN_ret, eu, calm_ret, tup4']
  rfl
theorem sp5 (r : Rw) (k : Nat) (hk : k ≤ 3) (hr : Sp k r) (c : Int) (n m : Nat) (part : Sx) (hp : part.dep ≤ 3) (so : Int) : Res k (finM (b__law_spoilt_19 cf (sgP r c n m part 5 so))) := by
  unfold b__law_spoilt_19
  simp -implicitDefEqProofs only [lk0, lkS, cmpS_ret, cmp_eq, eqM_int, consM_ret, bnd_ret, len_g, gt_ints, andM_rr, show ((5 : Int) == 0) = false from rfl, Bool.false_and, ifM_false, nxt_eq, seqM_next]
  unfold b__law_spoilt_17
  simp -implicitDefEqProofs only [lk0, lkS, cmpS_ret, cmp_eq, eqM_int, show ((5 : Int) == 1) = false from rfl, ifM_false, nxt_eq, seqM_next]
  unfold b__law_spoilt_15
  simp -implicitDefEqProofs only [lk0, lkS, cmpS_ret, cmp_eq, eqM_int, show ((5 : Int) == 2) = false from rfl, ifM_false, nxt_eq, seqM_next]
  unfold b__law_spoilt_11
  simp -implicitDefEqProofs only [lk0, lkS, cmpS_ret, cmp_eq, eqM_int, lt_ints, show decide ((5 : Int) < 5) = false from rfl, ifM_false, nxt_eq, seqM_next]
  unfold b__law_spoilt_9
  simp -implicitDefEqProofs only [lk0, lkS, cmpS_ret, cmp_eq, eqM_int, show ((5 : Int) == 5) = true from rfl, ifM_true]
  unfold b__law_spoilt_8
  simp -implicitDefEqProofs only [bnd_ret, put0, putS, seqM_next, seqM_bnd]
  unfold b__law_spoilt_7
  have tn : ∃ z : Str, Wd 0 z ∧ methS mGet (ret (.dict [((Str.ofString "left"), .str (Str.ofString "right")), ((Str.ofString "right"), .str (Str.ofString "left")), ((Str.ofString "one"), .str (Str.ofString "other")), ((Str.ofString "other"), .str (Str.ofString "one")), ((Str.ofString "onward"), .str (Str.ofString "both")), ((Str.ofString "both"), .str (Str.ofString "onward"))])) (ret [.str r.r, .str (Str.ofString "any")]) = ret (.str z) := by
    have q : methS mGet (ret (.dict [((Str.ofString "left"), .str (Str.ofString "right")), ((Str.ofString "right"), .str (Str.ofString "left")), ((Str.ofString "one"), .str (Str.ofString "other")), ((Str.ofString "other"), .str (Str.ofString "one")), ((Str.ofString "onward"), .str (Str.ofString "both")), ((Str.ofString "both"), .str (Str.ofString "onward"))])) (ret [.str r.r, .str (Str.ofString "any")]) =
      ret ((List.lookup r.r [((Str.ofString "left"), D.str (Str.ofString "right")), ((Str.ofString "right"), .str (Str.ofString "left")), ((Str.ofString "one"), .str (Str.ofString "other")), ((Str.ofString "other"), .str (Str.ofString "one")), ((Str.ofString "onward"), .str (Str.ofString "both")), ((Str.ofString "both"), .str (Str.ofString "onward"))]).getD (.str (Str.ofString "any"))) := rfl
    rw [q]
    simp only [List.lookup_cons, List.lookup_nil]
    have ww : ∀ x ∈ ruL, Wd 0 x := ruL_ok 0
    split
    · exact ⟨_, ww (Str.ofString "right") (by simp [ruL]), rfl⟩
    · split
      · exact ⟨_, ww (Str.ofString "left") (by simp [ruL]), rfl⟩
      · split
        · exact ⟨_, ww (Str.ofString "other") (by simp [ruL]), rfl⟩
        · split
          · exact ⟨_, ww (Str.ofString "one") (by simp [ruL]), rfl⟩
          · split
            · exact ⟨_, ww (Str.ofString "both") (by simp [ruL]), rfl⟩
            · split
              · exact ⟨_, ww (Str.ofString "onward") (by simp [ruL]), rfl⟩
              · exact ⟨_, ww (Str.ofString "any") (by simp [ruL]), rfl⟩
  obtain ⟨z, wd, ez⟩ := tn
  refine ⟨⟨r.g, r.s, z, r.u⟩, ret2 ?_ _, ⟨hr.mono.g, hr.mono.gl, hr.s, hr.mono.u, wd.1, Nat.le_trans wd.2 (Nat.mul_le_mul_left _ (Nat.pow_le_pow_right (by decide) (Nat.zero_le _)))⟩⟩
  simp -implicitDefEqProofs only [lk0, lkS, consM_ret, ez, tup4']
  rfl
theorem sp6 (r : Rw) (k : Nat) (hk : k ≤ 3) (hr : Sp k r) (c : Int) (n m : Nat) (part : Sx) (hp : part.dep ≤ 3) (so : Int) : Res k (finM (b__law_spoilt_19 cf (sgP r c n m part 6 so))) := by
  unfold b__law_spoilt_19
  simp -implicitDefEqProofs only [lk0, lkS, cmpS_ret, cmp_eq, eqM_int, consM_ret, bnd_ret, len_g, gt_ints, andM_rr, show ((6 : Int) == 0) = false from rfl, Bool.false_and, ifM_false, nxt_eq, seqM_next]
  unfold b__law_spoilt_17
  simp -implicitDefEqProofs only [lk0, lkS, cmpS_ret, cmp_eq, eqM_int, show ((6 : Int) == 1) = false from rfl, ifM_false, nxt_eq, seqM_next]
  unfold b__law_spoilt_15
  simp -implicitDefEqProofs only [lk0, lkS, cmpS_ret, cmp_eq, eqM_int, show ((6 : Int) == 2) = false from rfl, ifM_false, nxt_eq, seqM_next]
  unfold b__law_spoilt_11
  simp -implicitDefEqProofs only [lk0, lkS, cmpS_ret, cmp_eq, eqM_int, lt_ints, show decide ((6 : Int) < 5) = false from rfl, ifM_false, nxt_eq, seqM_next]
  unfold b__law_spoilt_9
  simp -implicitDefEqProofs only [lk0, lkS, cmpS_ret, cmp_eq, eqM_int, show ((6 : Int) == 5) = false from rfl, ifM_false, nxt_eq, seqM_next]
  unfold b__law_spoilt_6
  simp -implicitDefEqProofs only [lk0, lkS, cmpS_ret, cmp_eq, eqM_int, show ((6 : Int) == 6) = true from rfl, ifM_true]
  unfold b__law_spoilt_5
  refine ⟨⟨r.g, r.s, r.r, r.u.reverse⟩, ret2 ?_ _, ⟨hr.mono.g, hr.mono.gl, hr.s, by show r.u.reverse.length ≤ _; rw [List.length_reverse]; exact hr.mono.u, hr.a, hr.mono.l⟩⟩
  simp -implicitDefEqProofs only [lk0, lkS, revS_u, consM_ret, tup4']
  rfl
theorem sp7 (r : Rw) (k : Nat) (hk : k ≤ 3) (hr : Sp k r) (c : Int) (n m : Nat) (part : Sx) (hp : part.dep ≤ 3) (so : Int) : Res k (finM (b__law_spoilt_19 cf (sgP r c n m part 7 so))) := by
  unfold b__law_spoilt_19
  simp -implicitDefEqProofs only [lk0, lkS, cmpS_ret, cmp_eq, eqM_int, consM_ret, bnd_ret, len_g, gt_ints, andM_rr, show ((7 : Int) == 0) = false from rfl, Bool.false_and, ifM_false, nxt_eq, seqM_next]
  unfold b__law_spoilt_17
  simp -implicitDefEqProofs only [lk0, lkS, cmpS_ret, cmp_eq, eqM_int, show ((7 : Int) == 1) = false from rfl, ifM_false, nxt_eq, seqM_next]
  unfold b__law_spoilt_15
  simp -implicitDefEqProofs only [lk0, lkS, cmpS_ret, cmp_eq, eqM_int, show ((7 : Int) == 2) = false from rfl, ifM_false, nxt_eq, seqM_next]
  unfold b__law_spoilt_11
  simp -implicitDefEqProofs only [lk0, lkS, cmpS_ret, cmp_eq, eqM_int, lt_ints, show decide ((7 : Int) < 5) = false from rfl, ifM_false, nxt_eq, seqM_next]
  unfold b__law_spoilt_9
  simp -implicitDefEqProofs only [lk0, lkS, cmpS_ret, cmp_eq, eqM_int, show ((7 : Int) == 5) = false from rfl, ifM_false, nxt_eq, seqM_next]
  unfold b__law_spoilt_6
  simp -implicitDefEqProofs only [lk0, lkS, cmpS_ret, cmp_eq, eqM_int, show ((7 : Int) == 6) = false from rfl, ifM_false, nxt_eq, seqM_next]
  unfold b__law_spoilt_4
  simp -implicitDefEqProofs only [lk0, lkS, cmpS_ret, cmp_eq, eqM_int, show ((7 : Int) == 7) = true from rfl, ifM_true]
  unfold b__law_spoilt_3
  refine ⟨⟨r.g ++ [part], r.s, r.r, r.u⟩, ret2 ?_ _, ⟨fun x hx => ?_, by show (r.g ++ [part]).length ≤ _; rw [List.length_append, List.length_singleton]; have := hr.gl; omega, hr.s, hr.mono.u, hr.a, hr.mono.l⟩⟩
  · simp -implicitDefEqProofs only [lk0, lkS, consM_ret, tup1, binS_ret]
    rw [addG1 r.g part (by have := hr.gl; omega)]
    simp -implicitDefEqProofs only [consM_ret, tup4']
    rfl
  · rcases List.mem_append.mp hx with q | q
    · exact hr.g x q
    · rw [List.mem_singleton.mp q]; omega
theorem sp8 (r : Rw) (k : Nat) (hk : k ≤ 3) (hr : Sp k r) (c : Int) (n m : Nat) (part : Sx) (hp : part.dep ≤ 3) (so : Int) : Res k (finM (b__law_spoilt_19 cf (sgP r c n m part 8 so))) := by
  unfold b__law_spoilt_19
  simp -implicitDefEqProofs only [lk0, lkS, cmpS_ret, cmp_eq, eqM_int, consM_ret, bnd_ret, len_g, gt_ints, andM_rr, show ((8 : Int) == 0) = false from rfl, Bool.false_and, ifM_false, nxt_eq, seqM_next]
  unfold b__law_spoilt_17
  simp -implicitDefEqProofs only [lk0, lkS, cmpS_ret, cmp_eq, eqM_int, show ((8 : Int) == 1) = false from rfl, ifM_false, nxt_eq, seqM_next]
  unfold b__law_spoilt_15
  simp -implicitDefEqProofs only [lk0, lkS, cmpS_ret, cmp_eq, eqM_int, show ((8 : Int) == 2) = false from rfl, ifM_false, nxt_eq, seqM_next]
  unfold b__law_spoilt_11
  simp -implicitDefEqProofs only [lk0, lkS, cmpS_ret, cmp_eq, eqM_int, lt_ints, show decide ((8 : Int) < 5) = false from rfl, ifM_false, nxt_eq, seqM_next]
  unfold b__law_spoilt_9
  simp -implicitDefEqProofs only [lk0, lkS, cmpS_ret, cmp_eq, eqM_int, show ((8 : Int) == 5) = false from rfl, ifM_false, nxt_eq, seqM_next]
  unfold b__law_spoilt_6
  simp -implicitDefEqProofs only [lk0, lkS, cmpS_ret, cmp_eq, eqM_int, show ((8 : Int) == 6) = false from rfl, ifM_false, nxt_eq, seqM_next]
  unfold b__law_spoilt_4
  simp -implicitDefEqProofs only [lk0, lkS, cmpS_ret, cmp_eq, eqM_int, show ((8 : Int) == 7) = false from rfl, ifM_false, nxt_eq, seqM_next]
  unfold b__law_spoilt_2
  have hs := hr.s
  obtain ⟨rg, rs, rr, ru⟩ := r
  cases rs with
  | bin w p q =>
    have ln : bf0 .len [enc (.bin w p q)] = ret (.int 3) := rfl
    simp -implicitDefEqProofs only [lk0, lkS, consM_ret, bnd_ret, ln, cmpS_ret, cmp_eq, eqM_int, show ((3 : Int) == 3) = true from rfl, ifM_true]
    obtain ⟨j, hj, ej⟩ := fmod_lit so 3 3 (by decide) rfl
    obtain ⟨v, ev⟩ := w3s j hj
    unfold b__law_spoilt_1
    refine ⟨⟨rg, .bin v q p, rr, ru⟩, ret2 ?_ _, ⟨hr.mono.g, hr.mono.gl, by show max q.dep p.dep + 1 ≤ 10; have hs' : max p.dep q.dep + 1 ≤ 10 := hs; omega, hr.mono.u, hr.a, hr.mono.l⟩⟩
    simp -implicitDefEqProofs only [lk0, lkS, binS_ret, mod_ints _ 3 (by decide), ej, consM_ret, lst3', subS_ret, ev, sit1, sit2, tup3, tup4']
    rfl
  | nm x =>
    have ln : bf0 .len [enc (.nm x)] = ret (.int 2) := rfl
    simp -implicitDefEqProofs only [lk0, lkS, consM_ret, bnd_ret, ln, cmpS_ret, cmp_eq, eqM_int, show ((2 : Int) == 3) = false from rfl, ifM_false, nxt_eq, seqM_next]
    unfold b__law_spoilt_0
    refine ⟨⟨[], .nm x, rr, ru⟩, ret1 ?_, ⟨by simp, by simp, hs, hr.mono.u, hr.a, hr.mono.l⟩⟩
    simp -implicitDefEqProofs only [lk0, lkS, consM_ret, tup0, tup4']
    rfl
  | fls =>
    have ln : bf0 .len [enc .fls] = ret (.int 1) := rfl
    simp -implicitDefEqProofs only [lk0, lkS, consM_ret, bnd_ret, ln, cmpS_ret, cmp_eq, eqM_int, show ((1 : Int) == 3) = false from rfl, ifM_false, nxt_eq, seqM_next]
    unfold b__law_spoilt_0
    refine ⟨⟨[], .fls, rr, ru⟩, ret1 ?_, ⟨by simp, by simp, hs, hr.mono.u, hr.a, hr.mono.l⟩⟩
    simp -implicitDefEqProofs only [lk0, lkS, consM_ret, tup0, tup4']
    rfl
theorem spoilt_ok (hw : ∀ (u : List Int) (c : Int) (n m : Nat), u.length ≤ 100 → ∃ u' : List Int, u'.length ≤ u.length + 1 ∧ cf (Str.ofString "_law_wrong_ups") [.tuple (u.map .int), .int c, .int n, .int m] = ret (.tuple (u'.map .int))) (r : Rw) (k : Nat) (hk : k ≤ 3) (hr : Sp k r) (c : Int) (n m : Nat) (part : Sx) (hp : part.dep ≤ 3) : Res k (s__law_spoilt cf (encR r) (.int c) (.int n) (.int m) (enc part)) := by
  obtain ⟨w, hw9, ew⟩ := fmod_lit c 9 9 (by decide) rfl
  have e : s__law_spoilt cf (encR r) (.int c) (.int n) (.int m) (enc part) = finM (b__law_spoilt_19 cf (sgP r c n m part w (c.fdiv 9))) := by
    unfold s__law_spoilt b__law_spoilt_22
    simp -implicitDefEqProofs only [lk0, lkS, binS_ret, mod_ints _ 9 (by decide), ew, bnd_ret, put0, putS, seqM_next]
    unfold b__law_spoilt_21
    simp -implicitDefEqProofs only [lk0, lkS, binS_ret, div_ints _ 9 (by decide), bnd_ret, put0, putS, seqM_next]
    unfold b__law_spoilt_20
    simp -implicitDefEqProofs only [lk0, lkS, show ∀ σ, asgT [7, 8, 9, 10] σ (ret (encR r)) = ret (.next (put (put (put (put σ 7 (.tuple (r.g.map enc))) 8 (enc r.s)) 9 (.str r.r)) 10 (.tuple (r.u.map .int)))) from fun σ => rfl, put0, putS, seqM_next]
  rw [e]
  have hw' := lt9 w hw9
  rcases hw' with rfl | rfl | rfl | rfl | rfl | rfl | rfl | rfl | rfl
  · exact sp0 hw r k hk hr c n m part hp _
  · exact sp1 r k hk hr c n m part hp _
  · exact sp2 r k hk hr c n m part hp _
  · exact sp3 hw r k hk hr c n m part hp _
  · exact sp4 hw r k hk hr c n m part hp _
  · exact sp5 r k hk hr c n m part hp _
  · exact sp6 r k hk hr c n m part hp _
  · exact sp7 r k hk hr c n m part hp _
  · exact sp8 r k hk hr c n m part hp _
end
end L08
end Mine
end

section
set_option linter.unusedSimpArgs false
set_option maxRecDepth 100000
set_option maxHeartbeats 1000000
namespace Mine
open PySem
section
variable {S : Store} {p q : D} {xs ys : List D}
theorem add_own (h1 : listOf S p = some xs) (h2 : listOf S q = some ys) (hz : xs.length + ys.length ≤ 1000) : binop cfgO pos0 .Add p q S = .ok (.loc S.length) (S ++ [.list (xs ++ ys)]) := by
  have e : binop cfgO pos0 .Add p q S = addLists cfgO pos0 p q S := by
    rcases listOf_cases h1 with rfl | ⟨k, rfl, _⟩ <;> rfl
  rw [e]
  unfold addLists
  rw [h1, h2]
  show (if xs.length + ys.length ≤ sizeLine then mkList cfgO pos0 (xs ++ ys) S else .stuck) = _
  rw [if_pos (Nat.le_trans hz (by decide))]
  rfl
theorem add_fz (h1 : listOf S p = some xs) (h2 : listOf S q = some ys) (hz : xs.length + ys.length ≤ 1000) : bin0 .Add p q S = .ok (.list (xs ++ ys)) S := by
  have e : bin0 .Add p q S = addLists cfg0 pos0 p q S := by
    rcases listOf_cases h1 with rfl | ⟨k, rfl, _⟩ <;> rfl
  rw [e]
  unfold addLists
  rw [h1, h2]
  show (if xs.length + ys.length ≤ sizeLine then mkList cfg0 pos0 (xs ++ ys) S else .stuck) = _
  rw [if_pos (Nat.le_trans hz (by decide))]
  rfl
theorem len_any (h : listOf S p = some xs) : bf0 .len [p] S = .ok (.int xs.length) S := by
  rcases listOf_cases h with rfl | ⟨k, rfl, e⟩
  · rfl
  · exact len_loc e
end
/-- what a step of the generator adds -/
noncomputable def AddR (S : Store) (rows : List Rw) (m : EM D) : Prop := ∃ (l : Nat) (S' : Store) (more : List Rw), m S = .ok (.loc l) S' ∧ S'[l]? = some (.list ((rows ++ more).map encR)) ∧ (∀ x ∈ more, Sp 0 x) ∧ more.length ≤ 4
section
variable {S : Store} {r : D} {rows more : List Rw} {X Y : EM D}
theorem addr1 (hY : Y S = .ok r S) (hl : listOf S r = some (rows.map encR)) (hX : X = ret (.list (more.map encR))) (hz : rows.length ≤ 900) (hm : more.length ≤ 4) (hs : ∀ x ∈ more, Sp 0 x) : AddR S rows (finM (seqM (bnd (binO .Add Y X) fun d => ret (.ret d)) nxt)) := by
  refine ⟨S.length, _, more, ?_, last_st S _, hs, hm⟩
  have a := add_own (q := .list (more.map encR)) hl rfl (by rw [List.length_map, List.length_map]; omega)
  rw [← List.map_append] at a
  refine fin_st (seq_ret_st ?_)
  unfold binO
  rw [hX]
  have q : bnd (bnd Y fun a => bnd (ret (D.list (more.map encR))) fun b => binop cfgO pos0 .Add a b) (fun d => ret (Fl.ret d)) S = bnd (binop cfgO pos0 .Add r (.list (more.map encR))) (fun d => ret (Fl.ret d)) S := by
    rw [bnd_assoc, bnd_st hY]; rfl
  rw [q, bnd_st a]; rfl
theorem addr2x (hY : Y S = .ok r S) (hl : listOf S r = some (rows.map encR)) (hX : X = ret (.list (more.map encR))) (hz : rows.length ≤ 900) (hm : more.length ≤ 4) (k : Sg → EM Fl) : finM (seqM (seqM (bnd (binO .Add Y X) fun d => ret (.ret d)) nxt) k) S = .ok (.loc S.length) (S ++ [.list ((rows ++ more).map encR)]) := by
  have a := add_own (q := .list (more.map encR)) hl rfl (by rw [List.length_map, List.length_map]; omega)
  rw [← List.map_append] at a
  refine fin_st (seq_ret_st (seq_ret_st ?_))
  unfold binO
  rw [hX]
  have q : bnd (bnd Y fun a => bnd (ret (D.list (more.map encR))) fun b => binop cfgO pos0 .Add a b) (fun d => ret (Fl.ret d)) S = bnd (binop cfgO pos0 .Add r (.list (more.map encR))) (fun d => ret (Fl.ret d)) S := by
    rw [bnd_assoc, bnd_st hY]; rfl
  rw [q, bnd_st a]; rfl
theorem addr2 (hY : Y S = .ok r S) (hl : listOf S r = some (rows.map encR)) (hX : X = ret (.list (more.map encR))) (hz : rows.length ≤ 900) (hm : more.length ≤ 4) (hs : ∀ x ∈ more, Sp 0 x) (k : Sg → EM Fl) : AddR S rows (finM (seqM (seqM (bnd (binO .Add Y X) fun d => ret (.ret d)) nxt) k)) :=
  ⟨S.length, _, more, addr2x hY hl hX hz hm k, last_st S _, hs, hm⟩
end
namespace L08
noncomputable abbrev sgA (r : D) (w : Int) (g : List Sx) (a b c : Sx) (n : Nat) (x8 x9 x10 x11 x12 : Option D) : Sg := [some r, some (.int w), some (.tuple (g.map enc)), some (.tuple [enc a, enc b, enc c]), some (enc a), some (enc b), some (enc c), some (.int n), x8, x9, x10, x11, x12, none]
/-- what is given: few, small -/
structure Gv (g : List Sx) : Prop where
  len : g.length ≤ 3
  dep : ∀ x ∈ g, x.dep ≤ 3
theorem sp_of {g : List Sx} {s : Sx} {c : Ru} {u : List Int} (hg : g.length ≤ 5) (hd : ∀ x ∈ g, x.dep ≤ 3) (hs : s.dep ≤ 4) (hu : u.length ≤ 3) : Sp 0 ⟨g, s, c.s, u⟩ := by
  have h : asciiS c.s = true ∧ c.s.length ≤ 10 := by cases c <;> decide +kernel
  exact ⟨fun x hx => Nat.le_trans (hd x hx) (by decide), Nat.le_trans hg (by decide), Nat.le_trans hs (by decide), Nat.le_trans hu (by decide), h.1, h.2⟩
theorem dep2 {w : W3} {a b : Sx} (ha : a.dep ≤ 3) (hb : b.dep ≤ 3) : (Sx.bin w a b).dep ≤ 4 := by show max a.dep b.dep + 1 ≤ 4; omega
theorem mem_app {g l : List Sx} (h1 : ∀ x ∈ g, x.dep ≤ 3) (h2 : ∀ x ∈ l, x.dep ≤ 3) : ∀ x ∈ g ++ l, x.dep ≤ 3 := fun x hx => (List.mem_append.mp hx).elim (h1 x) (h2 x)
theorem mem1 {a : Sx} (h : a.dep ≤ 3) : ∀ x ∈ [a], x.dep ≤ 3 := fun x hx => by rw [List.mem_singleton.mp hx]; exact h
theorem mem2 {a b : Sx} (h : a.dep ≤ 3) (h' : b.dep ≤ 3) : ∀ x ∈ [a, b], x.dep ≤ 3 := fun x hx => by
  simp only [List.mem_cons, List.not_mem_nil, or_false] at hx
  rcases hx with rfl | rfl
  · exact h
  · exact h'
/-- one or two of them -/
noncomputable def Few (d : D) : Prop := ∃ l : List Sx, l.length ≤ 2 ∧ (∀ x ∈ l, x.dep ≤ 3) ∧ d = .tuple (l.map enc) ∧ ∃ s : Sx, s.dep ≤ 3 ∧ itemM d (.int (-1)) = ret (enc s)
theorem few1 {a : Sx} (h : a.dep ≤ 3) : Few (.tuple [enc a]) := ⟨[a], by simp, mem1 h, rfl, a, h, rfl⟩
theorem few2 {a b : Sx} (h : a.dep ≤ 3) (h' : b.dep ≤ 3) : Few (.tuple [enc a, enc b]) := ⟨[a, b], by simp, mem2 h h', rfl, b, h', rfl⟩
theorem lst4' (a b c d : D) : lst0 (ret [a, b, c, d]) = ret (.list [a, b, c, d]) := lst0_ret _ (by simp)
theorem all1 {P : Rw → Prop} {a : Rw} (h : P a) : ∀ x ∈ [a], P x := fun x hx => by rw [List.mem_singleton.mp hx]; exact h
theorem all2 {P : Rw → Prop} {a b : Rw} (h : P a) (h' : P b) : ∀ x ∈ [a, b], P x := fun x hx => by
  simp only [List.mem_cons, List.not_mem_nil, or_false] at hx
  rcases hx with rfl | rfl
  · exact h
  · exact h'
theorem all3 {P : Rw → Prop} {a b c : Rw} (h : P a) (h' : P b) (h'' : P c) : ∀ x ∈ [a, b, c], P x := fun x hx => by
  simp only [List.mem_cons, List.not_mem_nil, or_false] at hx
  rcases hx with rfl | rfl | rfl
  · exact h
  · exact h'
  · exact h''
section
variable {cf : Str → List D → EM D} {S : Store} {r : D} {rows : List Rw}
theorem ad0 (hl : listOf S r = some (rows.map encR)) (hz : rows.length ≤ 500) (g : List Sx) (a b c : Sx) (hg : Gv g) (ha : a.dep ≤ 3) (hb : b.dep ≤ 3) (hc : c.dep ≤ 3) (n : Nat) : AddR S rows (finM (b__law_added_23 cf (sgA r 0 g a b c n none none none none none))) := by
  unfold b__law_added_23
  simp -implicitDefEqProofs only [lk0, lkS, cmpS_ret, cmp_eq, eqM_int, show ((0 : Int) == 0) = true from rfl, ifM_true]
  unfold b__law_added_22
  refine addr2 (more := [(Rw.mk (g ++ [a]) (a) (Ru.given.s) ([]))]) rfl hl ?_ (by omega) (by simp) (all1 (sp_of (by have := hg.len; simp; omega) (mem_app hg.dep (mem1 ha)) (by omega) (by simp))) _
  simp -implicitDefEqProofs only [lk0, lkS, consM_ret, tup1, binS_ret]
  rw [addG1 g a (by have := hg.len; omega)]
  simp -implicitDefEqProofs only [consM_ret, tup0, tup4']
  exact (lst1 _).trans rfl
theorem ad1 (hl : listOf S r = some (rows.map encR)) (hz : rows.length ≤ 500) (g : List Sx) (a b c : Sx) (hg : Gv g) (ha : a.dep ≤ 3) (hb : b.dep ≤ 3) (hc : c.dep ≤ 3) (n : Nat) : AddR S rows (finM (b__law_added_23 cf (sgA r 1 g a b c n none none none none none))) := by
  unfold b__law_added_23
  simp -implicitDefEqProofs only [lk0, lkS, cmpS_ret, cmp_eq, eqM_int, show ((1 : Int) == 0) = false from rfl, ifM_false, nxt_eq, seqM_next]
  unfold b__law_added_21
  simp -implicitDefEqProofs only [lk0, lkS, cmpS_ret, cmp_eq, eqM_int, show ((1 : Int) == 1) = true from rfl, ifM_true]
  unfold b__law_added_20
  refine addr2 (more := [(Rw.mk (g) (a) (Ru.given.s) ([])), (Rw.mk (g) (b) (Ru.given.s) ([])), (Rw.mk (g) (.bin .a a b) (Ru.both.s) ([(n : Int), (n : Int) + 1]))]) rfl hl ?_ (by omega) (by simp) (all3 (sp_of (Nat.le_trans hg.len (by decide)) hg.dep (by omega) (by simp)) (sp_of (Nat.le_trans hg.len (by decide)) hg.dep (by omega) (by simp)) (sp_of (Nat.le_trans hg.len (by decide)) hg.dep (dep2 ha hb) (by simp))) _
  simp -implicitDefEqProofs only [lk0, lkS, consM_ret, tup0, tup3, binS_ret, add_ints, tup2, tup4']
  exact (lst3' _ _ _).trans rfl
theorem ad2 (hl : listOf S r = some (rows.map encR)) (hz : rows.length ≤ 500) (g : List Sx) (a b c : Sx) (hg : Gv g) (ha : a.dep ≤ 3) (hb : b.dep ≤ 3) (hc : c.dep ≤ 3) (n : Nat) : AddR S rows (finM (b__law_added_23 cf (sgA r 2 g a b c n none none none none none))) := by
  unfold b__law_added_23
  simp -implicitDefEqProofs only [lk0, lkS, cmpS_ret, cmp_eq, eqM_int, show ((2 : Int) == 0) = false from rfl, ifM_false, nxt_eq, seqM_next]
  unfold b__law_added_21
  simp -implicitDefEqProofs only [lk0, lkS, cmpS_ret, cmp_eq, eqM_int, show ((2 : Int) == 1) = false from rfl, ifM_false, nxt_eq, seqM_next]
  unfold b__law_added_19
  simp -implicitDefEqProofs only [lk0, lkS, cmpS_ret, cmp_eq, eqM_int, lt_ints, show decide ((2 : Int) < 4) = true from rfl, ifM_true]
  unfold b__law_added_18
  have i1 : ∀ p q : D, itemM (.list [p, q]) (.int (2 - 2)) = ret p := fun _ _ => rfl
  simp -implicitDefEqProofs only [lk0, lkS, consM_ret, lst2', binS_ret, sub_ints, subS_ret, i1, bnd_ret, put0, putS, seqM_next, seqM_bnd]
  unfold b__law_added_17
  refine addr2 (more := [(Rw.mk (g) (.bin .a a b) (Ru.given.s) ([])), (Rw.mk (g ++ [c]) (a) (Ru.left.s) ([(n : Int)]))]) rfl hl ?_ (by omega) (by simp) (all2 (sp_of (Nat.le_trans hg.len (by decide)) hg.dep (dep2 ha hb) (by simp)) (sp_of (by have := hg.len; simp; omega) (mem_app hg.dep (mem1 hc)) (by omega) (by simp))) _
  simp -implicitDefEqProofs only [lk0, lkS, consM_ret, tup1, tup3, lst2', binS_ret, sub_ints, subS_ret, i1]
  rw [addG1 g c (by have := hg.len; omega)]
  simp -implicitDefEqProofs only [consM_ret, tup0, tup4']
  exact (lst2' _ _).trans rfl
theorem ad3 (hl : listOf S r = some (rows.map encR)) (hz : rows.length ≤ 500) (g : List Sx) (a b c : Sx) (hg : Gv g) (ha : a.dep ≤ 3) (hb : b.dep ≤ 3) (hc : c.dep ≤ 3) (n : Nat) : AddR S rows (finM (b__law_added_23 cf (sgA r 3 g a b c n none none none none none))) := by
  unfold b__law_added_23
  simp -implicitDefEqProofs only [lk0, lkS, cmpS_ret, cmp_eq, eqM_int, show ((3 : Int) == 0) = false from rfl, ifM_false, nxt_eq, seqM_next]
  unfold b__law_added_21
  simp -implicitDefEqProofs only [lk0, lkS, cmpS_ret, cmp_eq, eqM_int, show ((3 : Int) == 1) = false from rfl, ifM_false, nxt_eq, seqM_next]
  unfold b__law_added_19
  simp -implicitDefEqProofs only [lk0, lkS, cmpS_ret, cmp_eq, eqM_int, lt_ints, show decide ((3 : Int) < 4) = true from rfl, ifM_true]
  unfold b__law_added_18
  have i1 : ∀ p q : D, itemM (.list [p, q]) (.int (3 - 2)) = ret q := fun _ _ => rfl
  simp -implicitDefEqProofs only [lk0, lkS, consM_ret, lst2', binS_ret, sub_ints, subS_ret, i1, bnd_ret, put0, putS, seqM_next, seqM_bnd]
  unfold b__law_added_17
  refine addr2 (more := [(Rw.mk (g) (.bin .a a b) (Ru.given.s) ([])), (Rw.mk (g ++ [c]) (b) (Ru.right.s) ([(n : Int)]))]) rfl hl ?_ (by omega) (by simp) (all2 (sp_of (Nat.le_trans hg.len (by decide)) hg.dep (dep2 ha hb) (by simp)) (sp_of (by have := hg.len; simp; omega) (mem_app hg.dep (mem1 hc)) (by omega) (by simp))) _
  simp -implicitDefEqProofs only [lk0, lkS, consM_ret, tup1, tup3, lst2', binS_ret, sub_ints, subS_ret, i1]
  rw [addG1 g c (by have := hg.len; omega)]
  simp -implicitDefEqProofs only [consM_ret, tup0, tup4']
  exact (lst2' _ _).trans rfl
theorem ad4 (hl : listOf S r = some (rows.map encR)) (hz : rows.length ≤ 500) (g : List Sx) (a b c : Sx) (hg : Gv g) (ha : a.dep ≤ 3) (hb : b.dep ≤ 3) (hc : c.dep ≤ 3) (n : Nat) : AddR S rows (finM (b__law_added_23 cf (sgA r 4 g a b c n none none none none none))) := by
  unfold b__law_added_23
  simp -implicitDefEqProofs only [lk0, lkS, cmpS_ret, cmp_eq, eqM_int, show ((4 : Int) == 0) = false from rfl, ifM_false, nxt_eq, seqM_next]
  unfold b__law_added_21
  simp -implicitDefEqProofs only [lk0, lkS, cmpS_ret, cmp_eq, eqM_int, show ((4 : Int) == 1) = false from rfl, ifM_false, nxt_eq, seqM_next]
  unfold b__law_added_19
  simp -implicitDefEqProofs only [lk0, lkS, cmpS_ret, cmp_eq, eqM_int, lt_ints, show decide ((4 : Int) < 4) = false from rfl, ifM_false, nxt_eq, seqM_next]
  unfold b__law_added_16
  simp -implicitDefEqProofs only [lk0, lkS, cmpS_ret, cmp_eq, eqM_int, lt_ints, show decide ((4 : Int) < 6) = true from rfl, ifM_true]
  unfold b__law_added_15
  have i1 : ∀ p q : D, itemM (.list [p, q]) (.int (4 - 4)) = ret p := fun _ _ => rfl
  simp -implicitDefEqProofs only [lk0, lkS, consM_ret, lst2', binS_ret, sub_ints, subS_ret, i1, bnd_ret, put0, putS, seqM_next, seqM_bnd]
  unfold b__law_added_14
  refine addr2 (more := [(Rw.mk (g) (a) (Ru.given.s) ([])), (Rw.mk (g) (.bin .o a b) (Ru.one.s) ([(n : Int)]))]) rfl hl ?_ (by omega) (by simp) (all2 (sp_of (Nat.le_trans hg.len (by decide)) hg.dep (by omega) (by simp)) (sp_of (Nat.le_trans hg.len (by decide)) hg.dep (dep2 ha hb) (by simp))) _
  simp -implicitDefEqProofs only [lk0, lkS, consM_ret, tup0, tup1, tup3, lst2', binS_ret, sub_ints, subS_ret, i1, tup4']
  exact (lst2' _ _).trans rfl
theorem ad5 (hl : listOf S r = some (rows.map encR)) (hz : rows.length ≤ 500) (g : List Sx) (a b c : Sx) (hg : Gv g) (ha : a.dep ≤ 3) (hb : b.dep ≤ 3) (hc : c.dep ≤ 3) (n : Nat) : AddR S rows (finM (b__law_added_23 cf (sgA r 5 g a b c n none none none none none))) := by
  unfold b__law_added_23
  simp -implicitDefEqProofs only [lk0, lkS, cmpS_ret, cmp_eq, eqM_int, show ((5 : Int) == 0) = false from rfl, ifM_false, nxt_eq, seqM_next]
  unfold b__law_added_21
  simp -implicitDefEqProofs only [lk0, lkS, cmpS_ret, cmp_eq, eqM_int, show ((5 : Int) == 1) = false from rfl, ifM_false, nxt_eq, seqM_next]
  unfold b__law_added_19
  simp -implicitDefEqProofs only [lk0, lkS, cmpS_ret, cmp_eq, eqM_int, lt_ints, show decide ((5 : Int) < 4) = false from rfl, ifM_false, nxt_eq, seqM_next]
  unfold b__law_added_16
  simp -implicitDefEqProofs only [lk0, lkS, cmpS_ret, cmp_eq, eqM_int, lt_ints, show decide ((5 : Int) < 6) = true from rfl, ifM_true]
  unfold b__law_added_15
  have i1 : ∀ p q : D, itemM (.list [p, q]) (.int (5 - 4)) = ret q := fun _ _ => rfl
  simp -implicitDefEqProofs only [lk0, lkS, consM_ret, lst2', binS_ret, sub_ints, subS_ret, i1, bnd_ret, put0, putS, seqM_next, seqM_bnd]
  unfold b__law_added_14
  refine addr2 (more := [(Rw.mk (g) (b) (Ru.given.s) ([])), (Rw.mk (g) (.bin .o a b) (Ru.other.s) ([(n : Int)]))]) rfl hl ?_ (by omega) (by simp) (all2 (sp_of (Nat.le_trans hg.len (by decide)) hg.dep (by omega) (by simp)) (sp_of (Nat.le_trans hg.len (by decide)) hg.dep (dep2 ha hb) (by simp))) _
  simp -implicitDefEqProofs only [lk0, lkS, consM_ret, tup0, tup1, tup3, lst2', binS_ret, sub_ints, subS_ret, i1, tup4']
  exact (lst2' _ _).trans rfl
theorem ad6 (hl : listOf S r = some (rows.map encR)) (hz : rows.length ≤ 500) (g : List Sx) (a b c : Sx) (hg : Gv g) (ha : a.dep ≤ 3) (hb : b.dep ≤ 3) (hc : c.dep ≤ 3) (n : Nat) : AddR S rows (finM (b__law_added_23 cf (sgA r 6 g a b c n none none none none none))) := by
  unfold b__law_added_23
  simp -implicitDefEqProofs only [lk0, lkS, cmpS_ret, cmp_eq, eqM_int, show ((6 : Int) == 0) = false from rfl, ifM_false, nxt_eq, seqM_next]
  unfold b__law_added_21
  simp -implicitDefEqProofs only [lk0, lkS, cmpS_ret, cmp_eq, eqM_int, show ((6 : Int) == 1) = false from rfl, ifM_false, nxt_eq, seqM_next]
  unfold b__law_added_19
  simp -implicitDefEqProofs only [lk0, lkS, cmpS_ret, cmp_eq, eqM_int, lt_ints, show decide ((6 : Int) < 4) = false from rfl, ifM_false, nxt_eq, seqM_next]
  unfold b__law_added_16
  simp -implicitDefEqProofs only [lk0, lkS, cmpS_ret, cmp_eq, eqM_int, lt_ints, show decide ((6 : Int) < 6) = false from rfl, ifM_false, nxt_eq, seqM_next]
  unfold b__law_added_13
  simp -implicitDefEqProofs only [lk0, lkS, cmpS_ret, cmp_eq, eqM_int, show ((6 : Int) == 6) = true from rfl, ifM_true]
  obtain ⟨j, hj, ej⟩ := fmod_lit (n : Int) 4 4 (by decide) rfl
  obtain ⟨j2, hj2, ej2⟩ := fmod_lit ((n : Int).fdiv 4) 2 2 (by decide) rfl
  obtain ⟨_, ⟨l1, hl1, hd1, rfl, s1, hs1, es1⟩, e1⟩ := it4 (p := Few) (.tuple [enc a]) (.tuple [enc b]) (.tuple [enc a]) (.tuple [enc a, enc b]) j hj (few1 ha) (few1 hb) (few1 ha) (few2 ha hb)
  obtain ⟨_, ⟨l2, hl2, hd2, rfl, _⟩, e2⟩ := it4 (p := Few) (.tuple [enc b]) (.tuple [enc b]) (.tuple [enc a]) (.tuple [enc b, enc a]) j hj (few1 hb) (few1 hb) (few1 ha) (few2 hb ha)
  have eg : ∃ go : Sx, go.dep ≤ 3 ∧ itemM (.list [enc s1, enc c]) (.int (j2 : Int)) = ret (enc go) := by
    have := lt2 j2 hj2
    rcases this with rfl | rfl
    · exact ⟨s1, hs1, rfl⟩
    · exact ⟨c, hc, rfl⟩
  obtain ⟨go, hgo, ego⟩ := eg
  have hgl := hg.len
  unfold b__law_added_12
  simp -implicitDefEqProofs only [lk0, lkS, consM_ret, tup1, tup2, lst4', binS_ret, mod_ints _ 4 (by decide), ej, subS_ret, e1, bnd_ret, put0, putS, seqM_next, seqM_bnd]
  unfold b__law_added_11
  simp -implicitDefEqProofs only [lk0, lkS, consM_ret, tup1, tup2, lst4', binS_ret, mod_ints _ 4 (by decide), ej, subS_ret, e2, bnd_ret, put0, putS, seqM_next, seqM_bnd]
  unfold b__law_added_10
  simp -implicitDefEqProofs only [lk0, lkS, consM_ret, usub1, subS_ret, es1, lst2', binS_ret, div_ints _ 4 (by decide), mod_ints _ 2 (by decide), ej2, ego]
  simp -implicitDefEqProofs only [bnd_ret, put0, putS, seqM_next, seqM_bnd]
  unfold b__law_added_9
  simp -implicitDefEqProofs only [lk0, lkS, consM_ret, tup0, tup3, binS_ret, tup4']
  rw [addG g l1 (by omega)]
  simp -implicitDefEqProofs only [consM_ret, tup4', bnd_ret]
  have m9 : bnd (lstO' (ret [encR (Rw.mk (g) (.bin .o a b) (Ru.given.s) ([])), encR (Rw.mk (g ++ l1) (go) (Ru.given.s) ([]))])) (fun d => ret (Fl.next (sgA r 6 g a b c n none (some (.tuple (l1.map enc))) (some (.tuple (l2.map enc))) (some (enc go)) (some d)))) S =
      .ok (.next (sgA r 6 g a b c n none (some (.tuple (l1.map enc))) (some (.tuple (l2.map enc))) (some (enc go)) (some (.loc S.length)))) (S ++ [.list ([(Rw.mk (g) (.bin .o a b) (Ru.given.s) ([])), (Rw.mk (g ++ l1) (go) (Ru.given.s) ([]))].map encR)]) := by
    have q : lstO' (ret [encR (Rw.mk (g) (.bin .o a b) (Ru.given.s) ([])), encR (Rw.mk (g ++ l1) (go) (Ru.given.s) ([]))]) S = .ok (.loc S.length) (S ++ [.list ([(Rw.mk (g) (.bin .o a b) (Ru.given.s) ([])), (Rw.mk (g ++ l1) (go) (Ru.given.s) ([]))].map encR)]) := rfl
    rw [bnd_st q]; rfl
  have seq_in : ∀ (m : EM Fl) (k1 k2 : Sg → EM Fl) (σ : Sg) (S S1 : Store), m S = .ok (.next σ) S1 → finM (seqM (seqM m k1) k2) S = finM (seqM (k1 σ) k2) S1 := by
    intro m k1 k2 σ S S1 hm
    rw [seqM_seq]
    exact go_st hm
  have m9' := seq_in _ (b__law_added_8 cf) (b__law_added_6 cf) _ _ _ m9
  have hS1 := last_st S (.list ([(Rw.mk (g) (.bin .o a b) (Ru.given.s) ([])), (Rw.mk (g ++ l1) (go) (Ru.given.s) ([]))].map encR))
  have m8 : bnd (methS mAppend (ret (.loc S.length)) (ret [encR (Rw.mk (l2 ++ g) (go) (Ru.given.s) ([]))])) (fun _ => ret (Fl.next (sgA r 6 g a b c n none (some (.tuple (l1.map enc))) (some (.tuple (l2.map enc))) (some (enc go)) (some (.loc S.length))))) (S ++ [.list ([(Rw.mk (g) (.bin .o a b) (Ru.given.s) ([])), (Rw.mk (g ++ l1) (go) (Ru.given.s) ([]))].map encR)]) =
      .ok (.next (sgA r 6 g a b c n none (some (.tuple (l1.map enc))) (some (.tuple (l2.map enc))) (some (enc go)) (some (.loc S.length)))) (S ++ [.list ([(Rw.mk (g) (.bin .o a b) (Ru.given.s) ([])), (Rw.mk (g ++ l1) (go) (Ru.given.s) ([])), (Rw.mk (l2 ++ g) (go) (Ru.given.s) ([]))].map encR)]) := by
    have q := app_loc (d := encR (Rw.mk (l2 ++ g) (go) (Ru.given.s) ([]))) hS1 (by simp)
    rw [set_st] at q
    rw [bnd_st q]; rfl
  have m8' := seq_in _ (b__law_added_7 cf) (b__law_added_6 cf) _ _ _ m8
  have hS2 := last_st S (.list ([(Rw.mk (g) (.bin .o a b) (Ru.given.s) ([])), (Rw.mk (g ++ l1) (go) (Ru.given.s) ([])), (Rw.mk (l2 ++ g) (go) (Ru.given.s) ([]))].map encR))
  have hl2' := listOf_grow [.list ([(Rw.mk (g) (.bin .o a b) (Ru.given.s) ([])), (Rw.mk (g ++ l1) (go) (Ru.given.s) ([])), (Rw.mk (l2 ++ g) (go) (Ru.given.s) ([]))].map encR)] hl
  generalize hT : S ++ [SObj.list ([(Rw.mk (g) (.bin .o a b) (Ru.given.s) ([])), (Rw.mk (g ++ l1) (go) (Ru.given.s) ([])), (Rw.mk (l2 ++ g) (go) (Ru.given.s) ([]))].map encR)] = T at m8 m8' hS2 hl2'
  have hq : listOf T (.loc S.length) = some ([(Rw.mk (g) (.bin .o a b) (Ru.given.s) ([])), (Rw.mk (g ++ l1) (go) (Ru.given.s) ([])), (Rw.mk (l2 ++ g) (go) (Ru.given.s) ([]))].map encR) := by
    show (match T[S.length]? with
      | some (.list ds) => some ds
      | _ => none) = _
    rw [hS2]
  have fz := add_fz hl2' hq (by rw [List.length_map, List.length_map]; simp; omega)
  rw [← List.map_append] at fz
  have f1 : finM (seqM (b__law_added_7 cf (sgA r 6 g a b c n none (some (.tuple (l1.map enc))) (some (.tuple (l2.map enc))) (some (enc go)) (some (.loc S.length)))) (b__law_added_6 cf)) T = .ok (.loc T.length) (T ++ [.list (((rows ++ [(Rw.mk (g) (.bin .o a b) (Ru.given.s) ([])), (Rw.mk (g ++ l1) (go) (Ru.given.s) ([])), (Rw.mk (l2 ++ g) (go) (Ru.given.s) ([]))]) ++ [(Rw.mk (g) (go) (Ru.cases.s) ([(n : Int), (n : Int) + 1, (n : Int) + 2]))]).map encR)]) := by
    unfold b__law_added_7
    refine addr2x (more := [(Rw.mk (g) (go) (Ru.cases.s) ([(n : Int), (n : Int) + 1, (n : Int) + 2]))]) (r := .list ((rows ++ [(Rw.mk (g) (.bin .o a b) (Ru.given.s) ([])), (Rw.mk (g ++ l1) (go) (Ru.given.s) ([])), (Rw.mk (l2 ++ g) (go) (Ru.given.s) ([]))]).map encR)) fz rfl ?_ (by simp; omega) (by simp) _
    simp -implicitDefEqProofs only [lk0, lkS, consM_ret, binS_ret, add_ints, tup3, tup4']
    exact (lst1 _).trans rfl
  have step8 : finM (seqM (b__law_added_8 cf (sgA r 6 g a b c n none (some (.tuple (l1.map enc))) (some (.tuple (l2.map enc))) (some (enc go)) (some (.loc S.length)))) (b__law_added_6 cf)) (S ++ [.list ([(Rw.mk (g) (.bin .o a b) (Ru.given.s) ([])), (Rw.mk (g ++ l1) (go) (Ru.given.s) ([]))].map encR)]) = .ok (.loc T.length) (T ++ [.list (((rows ++ [(Rw.mk (g) (.bin .o a b) (Ru.given.s) ([])), (Rw.mk (g ++ l1) (go) (Ru.given.s) ([])), (Rw.mk (l2 ++ g) (go) (Ru.given.s) ([]))]) ++ [(Rw.mk (g) (go) (Ru.cases.s) ([(n : Int), (n : Int) + 1, (n : Int) + 2]))]).map encR)]) := by
    unfold b__law_added_8
    simp -implicitDefEqProofs only [lk0, lkS, binS_ret]
    rw [addG l2 g (by omega)]
    simp -implicitDefEqProofs only [consM_ret, tup0, tup4']
    exact m8'.trans f1
  refine ⟨T.length, _, [(Rw.mk (g) (.bin .o a b) (Ru.given.s) ([])), (Rw.mk (g ++ l1) (go) (Ru.given.s) ([])), (Rw.mk (l2 ++ g) (go) (Ru.given.s) ([]))] ++ [(Rw.mk (g) (go) (Ru.cases.s) ([(n : Int), (n : Int) + 1, (n : Int) + 2]))], m9'.trans step8, by rw [← List.append_assoc]; exact last_st T _, fun x hx => ?_, by simp⟩
  rcases List.mem_append.mp hx with q | q
  · exact all3 (P := Sp 0) (sp_of (Nat.le_trans hg.len (by decide)) hg.dep (dep2 ha hb) (by simp)) (sp_of (by rw [List.length_append]; omega) (mem_app hg.dep hd1) (by omega) (by simp)) (sp_of (by rw [List.length_append]; omega) (mem_app hd2 hg.dep) (by omega) (by simp)) x q
  · exact all1 (P := Sp 0) (sp_of (Nat.le_trans hg.len (by decide)) hg.dep (by omega) (by simp)) x q
theorem ad7 (hl : listOf S r = some (rows.map encR)) (hz : rows.length ≤ 500) (g : List Sx) (a b c : Sx) (hg : Gv g) (ha : a.dep ≤ 3) (hb : b.dep ≤ 3) (hc : c.dep ≤ 3) (n : Nat) : AddR S rows (finM (b__law_added_23 cf (sgA r 7 g a b c n none none none none none))) := by
  unfold b__law_added_23
  simp -implicitDefEqProofs only [lk0, lkS, cmpS_ret, cmp_eq, eqM_int, show ((7 : Int) == 0) = false from rfl, ifM_false, nxt_eq, seqM_next]
  unfold b__law_added_21
  simp -implicitDefEqProofs only [lk0, lkS, cmpS_ret, cmp_eq, eqM_int, show ((7 : Int) == 1) = false from rfl, ifM_false, nxt_eq, seqM_next]
  unfold b__law_added_19
  simp -implicitDefEqProofs only [lk0, lkS, cmpS_ret, cmp_eq, eqM_int, lt_ints, show decide ((7 : Int) < 4) = false from rfl, ifM_false, nxt_eq, seqM_next]
  unfold b__law_added_16
  simp -implicitDefEqProofs only [lk0, lkS, cmpS_ret, cmp_eq, eqM_int, lt_ints, show decide ((7 : Int) < 6) = false from rfl, ifM_false, nxt_eq, seqM_next]
  unfold b__law_added_13
  simp -implicitDefEqProofs only [lk0, lkS, cmpS_ret, cmp_eq, eqM_int, show ((7 : Int) == 6) = false from rfl, ifM_false, nxt_eq, seqM_next]
  unfold b__law_added_6
  simp -implicitDefEqProofs only [lk0, lkS, cmpS_ret, cmp_eq, eqM_int, show ((7 : Int) == 7) = true from rfl, ifM_true]
  obtain ⟨j, hj, ej⟩ := fmod_lit (n : Int) 4 4 (by decide) rfl
  obtain ⟨_, ⟨l1, hl1, hd1, rfl, s1, hs1, es1⟩, e1⟩ := it4 (p := Few) (.tuple [enc a]) (.tuple [enc b]) (.tuple [enc a, enc b]) (.tuple [enc b, enc a]) j hj (few1 ha) (few1 hb) (few2 ha hb) (few2 hb ha)
  have hgl := hg.len
  unfold b__law_added_5
  simp -implicitDefEqProofs only [lk0, lkS, consM_ret, tup1, tup2, lst4', binS_ret, mod_ints _ 4 (by decide), ej, subS_ret, e1, bnd_ret, put0, putS, seqM_next, seqM_bnd]
  unfold b__law_added_4
  refine addr2 (more := [(Rw.mk (l1 ++ g) (b) (Ru.given.s) ([])), (Rw.mk (g) (.bin .t a b) (Ru.suppose.s) ([(n : Int)]))]) rfl hl ?_ (by omega) (by simp) (all2 (sp_of (by rw [List.length_append]; omega) (mem_app hd1 hg.dep) (by omega) (by simp)) (sp_of (Nat.le_trans hg.len (by decide)) hg.dep (dep2 ha hb) (by simp))) _
  simp -implicitDefEqProofs only [lk0, lkS, consM_ret, tup1, tup3, binS_ret]
  rw [addG l1 g (by omega)]
  simp -implicitDefEqProofs only [consM_ret, tup0, tup4']
  exact (lst2' _ _).trans rfl
theorem ad8 (hl : listOf S r = some (rows.map encR)) (hz : rows.length ≤ 500) (g : List Sx) (a b c : Sx) (hg : Gv g) (ha : a.dep ≤ 3) (hb : b.dep ≤ 3) (hc : c.dep ≤ 3) (n : Nat) : AddR S rows (finM (b__law_added_23 cf (sgA r 8 g a b c n none none none none none))) := by
  unfold b__law_added_23
  simp -implicitDefEqProofs only [lk0, lkS, cmpS_ret, cmp_eq, eqM_int, show ((8 : Int) == 0) = false from rfl, ifM_false, nxt_eq, seqM_next]
  unfold b__law_added_21
  simp -implicitDefEqProofs only [lk0, lkS, cmpS_ret, cmp_eq, eqM_int, show ((8 : Int) == 1) = false from rfl, ifM_false, nxt_eq, seqM_next]
  unfold b__law_added_19
  simp -implicitDefEqProofs only [lk0, lkS, cmpS_ret, cmp_eq, eqM_int, lt_ints, show decide ((8 : Int) < 4) = false from rfl, ifM_false, nxt_eq, seqM_next]
  unfold b__law_added_16
  simp -implicitDefEqProofs only [lk0, lkS, cmpS_ret, cmp_eq, eqM_int, lt_ints, show decide ((8 : Int) < 6) = false from rfl, ifM_false, nxt_eq, seqM_next]
  unfold b__law_added_13
  simp -implicitDefEqProofs only [lk0, lkS, cmpS_ret, cmp_eq, eqM_int, show ((8 : Int) == 6) = false from rfl, ifM_false, nxt_eq, seqM_next]
  unfold b__law_added_6
  simp -implicitDefEqProofs only [lk0, lkS, cmpS_ret, cmp_eq, eqM_int, show ((8 : Int) == 7) = false from rfl, ifM_false, nxt_eq, seqM_next]
  unfold b__law_added_3
  simp -implicitDefEqProofs only [lk0, lkS, cmpS_ret, cmp_eq, eqM_int, show ((8 : Int) == 8) = true from rfl, ifM_true]
  have hgl := hg.len
  unfold b__law_added_2
  simp -implicitDefEqProofs only [lk0, lkS, consM_ret, tup0, tup3, tup4', lst2', bnd_ret, put0, putS, seqM_next, seqM_bnd]
  have fz := add_fz (q := .list ([(Rw.mk (g) (.bin .t a b) (Ru.given.s) ([])), (Rw.mk (g) (a) (Ru.given.s) ([]))].map encR)) hl rfl (by rw [List.length_map, List.length_map]; simp; omega)
  rw [← List.map_append] at fz
  have f1 : finM (seqM (b__law_added_1 cf (sgA r 8 g a b c n none none none none (some (.list ([(Rw.mk (g) (.bin .t a b) (Ru.given.s) ([])), (Rw.mk (g) (a) (Ru.given.s) ([]))].map encR))))) (b__law_added_0 cf)) S = .ok (.loc S.length) (S ++ [.list (((rows ++ [(Rw.mk (g) (.bin .t a b) (Ru.given.s) ([])), (Rw.mk (g) (a) (Ru.given.s) ([]))]) ++ [(Rw.mk (g) (b) (Ru.onward.s) ([(n : Int), (n : Int) + 1]))]).map encR)]) := by
    unfold b__law_added_1
    refine addr2x (more := [(Rw.mk (g) (b) (Ru.onward.s) ([(n : Int), (n : Int) + 1]))]) (r := .list ((rows ++ [(Rw.mk (g) (.bin .t a b) (Ru.given.s) ([])), (Rw.mk (g) (a) (Ru.given.s) ([]))]).map encR)) fz rfl ?_ (by simp; omega) (by simp) _
    simp -implicitDefEqProofs only [lk0, lkS, consM_ret, binS_ret, add_ints, tup2, tup4']
    exact (lst1 _).trans rfl
  refine ⟨S.length, _, [(Rw.mk (g) (.bin .t a b) (Ru.given.s) ([])), (Rw.mk (g) (a) (Ru.given.s) ([]))] ++ [(Rw.mk (g) (b) (Ru.onward.s) ([(n : Int), (n : Int) + 1]))], f1, by rw [← List.append_assoc]; exact last_st S _, fun x hx => ?_, by simp⟩
  rcases List.mem_append.mp hx with q | q
  · exact all2 (P := Sp 0) (sp_of (Nat.le_trans hg.len (by decide)) hg.dep (dep2 ha hb) (by simp)) (sp_of (Nat.le_trans hg.len (by decide)) hg.dep (by omega) (by simp)) x q
  · exact all1 (P := Sp 0) (sp_of (Nat.le_trans hg.len (by decide)) hg.dep (by omega) (by simp)) x q
theorem ad9 (hl : listOf S r = some (rows.map encR)) (hz : rows.length ≤ 500) (g : List Sx) (a b c : Sx) (hg : Gv g) (ha : a.dep ≤ 3) (hb : b.dep ≤ 3) (hc : c.dep ≤ 3) (n : Nat) : AddR S rows (finM (b__law_added_23 cf (sgA r 9 g a b c n none none none none none))) := by
  unfold b__law_added_23
  simp -implicitDefEqProofs only [lk0, lkS, cmpS_ret, cmp_eq, eqM_int, show ((9 : Int) == 0) = false from rfl, ifM_false, nxt_eq, seqM_next]
  unfold b__law_added_21
  simp -implicitDefEqProofs only [lk0, lkS, cmpS_ret, cmp_eq, eqM_int, show ((9 : Int) == 1) = false from rfl, ifM_false, nxt_eq, seqM_next]
  unfold b__law_added_19
  simp -implicitDefEqProofs only [lk0, lkS, cmpS_ret, cmp_eq, eqM_int, lt_ints, show decide ((9 : Int) < 4) = false from rfl, ifM_false, nxt_eq, seqM_next]
  unfold b__law_added_16
  simp -implicitDefEqProofs only [lk0, lkS, cmpS_ret, cmp_eq, eqM_int, lt_ints, show decide ((9 : Int) < 6) = false from rfl, ifM_false, nxt_eq, seqM_next]
  unfold b__law_added_13
  simp -implicitDefEqProofs only [lk0, lkS, cmpS_ret, cmp_eq, eqM_int, show ((9 : Int) == 6) = false from rfl, ifM_false, nxt_eq, seqM_next]
  unfold b__law_added_6
  simp -implicitDefEqProofs only [lk0, lkS, cmpS_ret, cmp_eq, eqM_int, show ((9 : Int) == 7) = false from rfl, ifM_false, nxt_eq, seqM_next]
  unfold b__law_added_3
  simp -implicitDefEqProofs only [lk0, lkS, cmpS_ret, cmp_eq, eqM_int, show ((9 : Int) == 8) = false from rfl, ifM_false, nxt_eq, seqM_next]
  unfold b__law_added_0
  refine addr1 (more := [(Rw.mk (g) (.fls) (Ru.given.s) ([])), (Rw.mk (g) (a) (Ru.any.s) ([(n : Int)]))]) rfl hl ?_ (by omega) (by simp) (all2 (sp_of (Nat.le_trans hg.len (by decide)) hg.dep (by simp [Sx.dep]) (by simp)) (sp_of (Nat.le_trans hg.len (by decide)) hg.dep (by omega) (by simp)))
  simp -implicitDefEqProofs only [lk0, lkS, consM_ret, tup0, tup1, tup4']
  exact (lst2' _ _).trans rfl
end
end L08
end Mine
end

section
set_option linter.unusedSimpArgs false
set_option maxRecDepth 100000
set_option maxHeartbeats 1000000
namespace Mine
open PySem
theorem binS_st {op : Operator} {X Y : EM D} {a b : D} {S S1 S2 : Store} (hX : X S = .ok a S1) (hY : Y S1 = .ok b S2) : binS op X Y S = bin0 op a b S2 := by
  unfold binS; rw [bnd_st hX, bnd_st hY]
/-- the rows so far: none, or a list of the store -/
structure RwB (S : Store) (r : D) (rows : List Rw) : Prop where
  kind : (r = .list [] ∧ rows = []) ∨ ∃ l, r = .loc l
  at' : listOf S r = some (rows.map encR)
  sp : ∀ x ∈ rows, Sp 0 x
namespace L08
section
variable {cf : Str → List D → EM D} {S : Store} {r : D} {rows : List Rw}
theorem added_ok (hl : listOf S r = some (rows.map encR)) (hz : rows.length ≤ 500) (g : List Sx) (a b c : Sx) (hg : Gv g) (ha : a.dep ≤ 3) (hb : b.dep ≤ 3) (hc : c.dep ≤ 3) (w : Nat) (hw : w < 10) :
    AddR S rows (s__law_added cf r (.int w) (.tuple (g.map enc)) (.tuple [enc a, enc b, enc c])) := by
  have e : s__law_added cf r (.int w) (.tuple (g.map enc)) (.tuple [enc a, enc b, enc c]) S = finM (b__law_added_23 cf (sgA r w g a b c rows.length none none none none none)) S := by
    unfold s__law_added b__law_added_25
    simp -implicitDefEqProofs only [lk0, lkS, asg3, put0, putS, seqM_next]
    unfold b__law_added_24
    have hn := len_any hl
    rw [List.length_map] at hn
    refine go_st ?_
    show bnd (bf0 .len [r]) (fun d => ret (Fl.next (put _ 7 d))) S = _
    rw [bnd_st hn]; rfl
  have key : AddR S rows (finM (b__law_added_23 cf (sgA r w g a b c rows.length none none none none none))) := by
    have hw' := lt10 w hw
    rcases hw' with rfl | rfl | rfl | rfl | rfl | rfl | rfl | rfl | rfl | rfl
    · exact ad0 hl hz g a b c hg ha hb hc _
    · exact ad1 hl hz g a b c hg ha hb hc _
    · exact ad2 hl hz g a b c hg ha hb hc _
    · exact ad3 hl hz g a b c hg ha hb hc _
    · exact ad4 hl hz g a b c hg ha hb hc _
    · exact ad5 hl hz g a b c hg ha hb hc _
    · exact ad6 hl hz g a b c hg ha hb hc _
    · exact ad7 hl hz g a b c hg ha hb hc _
    · exact ad8 hl hz g a b c hg ha hb hc _
    · exact ad9 hl hz g a b c hg ha hb hc _
  obtain ⟨l, S', more, h1, h2⟩ := key
  exact ⟨l, S', more, e.trans h1, h2⟩
structure CfG (cf : Str → List D → EM D) : Prop where
  part : ∀ sd c : Int, ∃ s : Sx, s.dep ≤ 3 ∧ cf (Str.ofString "_law_part_by") [.int sd, .int c] = ret (enc s)
  add : ∀ (S : Store) (r : D) (rows : List Rw) (g : List Sx) (a b c : Sx) (w : Nat), listOf S r = some (rows.map encR) → rows.length ≤ 500 → Gv g → a.dep ≤ 3 → b.dep ≤ 3 → c.dep ≤ 3 → w < 10 → AddR S rows (cf (Str.ofString "_law_added") [r, .int w, .tuple (g.map enc), .tuple [enc a, enc b, enc c]])
  cell : ∀ (xs : List Int) (k : Nat), ∃ i : Int, cf (Str.ofString "_law_cell_at") [.list (xs.map D.int), .int k] = ret (.int i)
  spo : ∀ (r : Rw) (k : Nat) (c : Int) (n m : Nat) (part : Sx), k ≤ 3 → Sp k r → part.dep ≤ 3 → Res k (cf (Str.ofString "_law_spoilt") [encR r, .int c, .int n, .int m, enc part])
theorem mul01 (x : Sx) (k : Nat) (hk : k < 2) : ∃ l : List Sx, l.length ≤ 1 ∧ (∀ y ∈ l, y = x) ∧ binMu .Mult (ret (.tuple [enc x])) (ret (.int k)) = ret (.tuple (l.map enc)) := by
  have := lt2 k hk
  rcases this with rfl | rfl
  · exact ⟨[], by simp, by simp, rfl⟩
  · exact ⟨[x], by simp, by simp, rfl⟩
theorem itT3 {a b c : Sx} (k : Nat) (hk : k < 3) (ha : a.dep ≤ 3) (hb : b.dep ≤ 3) (hc : c.dep ≤ 3) : ∃ s : Sx, s.dep ≤ 3 ∧ itemM (.tuple [enc a, enc b, enc c]) (.int k) = ret (enc s) := by
  have := lt3 k hk
  rcases this with rfl | rfl | rfl
  · exact ⟨a, ha, rfl⟩
  · exact ⟨b, hb, rfl⟩
  · exact ⟨c, hc, rfl⟩
noncomputable abbrev sgR (cs : List Int) (sd : Int) (r : D) (o3 o4 o5 o6 o7 : Option D) : Sg := [some (.list (cs.map D.int)), some (.int sd), some r, o3, o4, o5, o6, o7, none, none, none, none, none]
theorem turn_ok (h : CfG cf) (cs : List Int) (sd : Int) (k : Nat) (hk : 2 * k + 1 < cs.length) (hk10 : k < 100) (hR : RwB S r rows) (hz : rows.length ≤ 500) (o4 o5 o6 o7 : Option D) :
    ∃ r' rows' S' p4 p5 p6 p7, RwB S' r' rows' ∧ rows'.length ≤ rows.length + 4 ∧ b__law_rows_by_6 cf (sgR cs sd r (some (.int k)) o4 o5 o6 o7) S = .ok (.next (sgR cs sd r' (some (.int k)) p4 p5 p6 p7)) S' := by
  have m2 := mul_ints 2 (k : Int) (by decide) (by omega)
  have i1 : itemM (.list (cs.map D.int)) (.int (2 * (k : Int))) = ret (.int cs[2 * k]) := by
    have := itemL_at (ds := cs.map D.int) (k := 2 * k) (d := .int cs[2 * k]) (by rw [List.getElem?_map, List.getElem?_eq_getElem (by omega)]; rfl)
    rwa [show ((2 * k : Nat) : Int) = 2 * (k : Int) from by omega] at this
  have i2 : itemM (.list (cs.map D.int)) (.int (2 * (k : Int) + 1)) = ret (.int cs[2 * k + 1]) := by
    have := itemL_at (ds := cs.map D.int) (k := 2 * k + 1) (d := .int cs[2 * k + 1]) (by rw [List.getElem?_map, List.getElem?_eq_getElem (by omega)]; rfl)
    rwa [show ((2 * k + 1 : Nat) : Int) = 2 * (k : Int) + 1 from by omega] at this
  generalize cs[2 * k] = ce at i1
  generalize cs[2 * k + 1] = so at i2
  unfold b__law_rows_by_6
  simp -implicitDefEqProofs only [lk0, lkS, binS_ret, m2, subS_ret, i1, bnd_ret, put0, putS, seqM_next]
  unfold b__law_rows_by_5
  obtain ⟨a, ha, ea⟩ := h.part sd ((ce.fdiv 10).fdiv 1)
  obtain ⟨b, hb, eb⟩ := h.part sd ((ce.fdiv 10).fdiv 400)
  obtain ⟨c, hc, ec⟩ := h.part sd ((ce.fdiv 10).fdiv 160000)
  have tu : ∀ (j d : Int) (s : Sx), (itemM (.list [D.int 1, D.int 400, D.int 160000]) (.int j) = ret (.int d)) → d ≠ 0 → cf (Str.ofString "_law_part_by") [.int sd, .int ((ce.fdiv 10).fdiv d)] = ret (enc s) →
      t__law_rows_by_4 cf (sgR cs sd r (some (.int k)) (some (.int ce)) o5 o6 o7) (.int j) = ret (some (enc s)) := by
    intro j d s hj hd hs
    unfold t__law_rows_by_4
    show turnS (ret true) (callN cf (Str.ofString "_law_part_by") (consM (ret (.int sd)) (consM (binS .FloorDiv (binS .FloorDiv (ret (.int ce)) (ret (.int 10))) (subS (lst0 (ret [D.int 1, D.int 400, D.int 160000])) (ret (.int j)))) (ret [])))) = _
    simp -implicitDefEqProofs only [binS_ret, div_ints _ 10 (by decide), lst3', subS_ret, hj, div_ints _ d hd, consM_ret, callN_ret, hs, calm_ret]
    rfl
  have cm : comp0 (ret (.range 0 3)) (t__law_rows_by_4 cf (sgR cs sd r (some (.int k)) (some (.int ce)) o5 o6 o7)) = ret (.list [enc a, enc b, enc c]) := by
    show bnd (compL _ [D.int 0, D.int 1, D.int 2]) (fun ys => mkList cfg0 pos0 ys) = _
    rw [compL_cons1 (tu 0 1 a rfl (by decide) ea) (compL_cons1 (tu 1 400 b rfl (by decide) eb) (compL_cons1 (tu 2 160000 c rfl (by decide) ec) rfl))]
    rfl
  simp -implicitDefEqProofs only [consM_ret, bnd_ret, show bf0 .range [.int 3] = ret (.range 0 3) from rfl, cm, show ∀ ds, bf0 .tuple [.list ds] = ret (.tuple ds) from fun _ => rfl, put0, putS, seqM_next]
  unfold b__law_rows_by_3
  simp -implicitDefEqProofs only [lk0, lkS, binS_ret, m2, add_ints, subS_ret, i2, bnd_ret, put0, putS, seqM_next]
  unfold b__law_rows_by_2
  obtain ⟨j1, hj1, ej1⟩ := fmod_lit so 3 3 (by decide) rfl
  obtain ⟨j2, hj2, ej2⟩ := fmod_lit (so.fdiv 3) 2 2 (by decide) rfl
  obtain ⟨j3, hj3, ej3⟩ := fmod_lit (so.fdiv 6) 2 2 (by decide) rfl
  obtain ⟨j4, hj4, ej4⟩ := fmod_lit (so.fdiv 12) 3 3 (by decide) rfl
  obtain ⟨x, hx, ex⟩ := itT3 j1 hj1 ha hb hc
  obtain ⟨y, hy, ey⟩ := itT3 j4 hj4 ha hb hc
  obtain ⟨l1, hl1, hm1, e1⟩ := mul01 x j2 hj2
  obtain ⟨l2, hl2, hm2, e2⟩ := mul01 .fls j3 hj3
  have hg : Gv (l1 ++ l2 ++ [y]) := ⟨by simp only [List.length_append, List.length_cons, List.length_nil]; omega, fun z hz => by
    rcases List.mem_append.mp hz with q | q
    · rcases List.mem_append.mp q with q | q
      · rw [hm1 z q]; exact hx
      · rw [hm2 z q]; simp [Sx.dep]
    · rw [List.mem_singleton.mp q]; exact hy⟩
  have e2' : binMu .Mult (ret (.tuple [.tuple [.str (Str.ofString "false")]])) (ret (.int (j3 : Int))) = ret (.tuple (l2.map enc)) := e2
  simp -implicitDefEqProofs only [lk0, lkS, binS_ret, mod_ints _ 3 (by decide), ej1, subS_ret, ex, consM_ret, tup1, div_ints _ 3 (by decide), mod_ints _ 2 (by decide), ej2, e1, div_ints _ 6 (by decide), ej3, e2', div_ints _ 12 (by decide), ej4, ey]
  rw [addG l1 l2 (by omega)]
  simp -implicitDefEqProofs only [binS_ret]
  rw [addG1 (l1 ++ l2) y (by rw [List.length_append]; omega)]
  simp -implicitDefEqProofs only [bnd_ret, put0, putS, seqM_next]
  unfold b__law_rows_by_1
  obtain ⟨w, hw, ew⟩ := fmod_lit ce 10 10 (by decide) rfl
  obtain ⟨l, S', more, f1, f2, f3, f4⟩ := h.add S r rows (l1 ++ l2 ++ [y]) a b c w hR.at' hz hg ha hb hc hw
  simp -implicitDefEqProofs only [lk0, lkS, binS_ret, mod_ints _ 10 (by decide), ew, consM_ret, bnd_ret]
  refine ⟨.loc l, rows ++ more, S', some (.int ce), some (.tuple [enc a, enc b, enc c]), some (.int so), some (.tuple ((l1 ++ l2 ++ [y]).map enc)), ⟨.inr ⟨l, rfl⟩, ?_, fun z hz => ?_⟩, by rw [List.length_append]; omega, ?_⟩
  · show (match S'[l]? with
      | some (.list ds) => some ds
      | _ => none) = _
    rw [f2]
  · rcases List.mem_append.mp hz with q | q
    · exact hR.sp z q
    · exact f3 z q
  · refine (seq_st (k := nxt) ?_)
    rw [bnd_st f1]
    rfl
theorem rows_by_ok (h : CfG cf) (cs : List Int) (sd : Int) (S : Store) : ∃ r rows S', RwB S' r rows ∧ rows.length ≤ 40 ∧ s__law_rows_by cf (.list (cs.map D.int)) (.int sd) S = .ok r S' := by
  unfold s__law_rows_by b__law_rows_by_8
  have l0 : lst0 (ret []) = ret (.list []) := rfl
  simp -implicitDefEqProofs only [l0, bnd_ret, put0, putS, seqM_next]
  unfold b__law_rows_by_7
  obtain ⟨t, ht, ht2, et⟩ : ∃ t : Nat, t ≤ 10 ∧ 2 * t ≤ cs.length ∧ bfS bMin2 false (ret [D.int 10, D.int ((cs.length : Int).fdiv 2)]) = ret (.int (t : Int)) := by
    have hd : (cs.length : Int).fdiv 2 = ((cs.length / 2 : Nat) : Int) := by
      rw [Int.fdiv_eq_ediv_of_nonneg _ (by decide)]; omega
    rw [hd]
    by_cases q : ((cs.length / 2 : Nat) : Int) < 10
    · refine ⟨cs.length / 2, by omega, by omega, ?_⟩
      show ret (D.int (if ((cs.length / 2 : Nat) : Int) < 10 then ((cs.length / 2 : Nat) : Int) else 10)) = _
      rw [if_pos q]
    · refine ⟨10, by omega, by omega, ?_⟩
      show ret (D.int (if ((cs.length / 2 : Nat) : Int) < 10 then ((cs.length / 2 : Nat) : Int) else 10)) = _
      rw [if_neg q]; rfl
  have hlen : bf0 .len [.list (cs.map D.int)] = ret (.int (cs.length : Int)) := by rw [len_lst, List.length_map]
  simp -implicitDefEqProofs only [lk0, lkS, consM_ret, bnd_ret, hlen, binS_ret, div_ints _ 2 (by decide), et, show bf0 .range [.int (t : Int)] = ret (.range 0 (t : Int)) from rfl]
  have e : forM' (ret (.range 0 (t : Int))) (fun d σ => b__law_rows_by_6 cf (put σ 3 d)) (sgR cs sd (.list []) none none none none none) = forL (fun d σ => b__law_rows_by_6 cf (put σ 3 d)) (rangeL 0 (t : Int)) (sgR cs sd (.list []) none none none none none) := by
    unfold forM'
    rw [bnd_ret, items_range (by omega)]; rfl
  rw [e]
  obtain ⟨σ', S', hI, q⟩ := forL_st (body := fun d σ => b__law_rows_by_6 cf (put σ 3 d)) (fun k σ S => ∃ r rows o3 o4 o5 o6 o7, σ = sgR cs sd r o3 o4 o5 o6 o7 ∧ RwB S r rows ∧ rows.length ≤ 4 * k) (rangeL 0 (t : Int)) 0 (fun k d hd σ S hI => by
    obtain ⟨r, rows, o3, o4, o5, o6, o7, rfl, hR, hz⟩ := hI
    have hk : k < t := by
      have := (List.getElem?_eq_some_iff.mp hd).1
      rwa [range_len] at this
    have hdk : d = .int (k : Int) := by
      unfold rangeL at hd
      rw [List.getElem?_map, List.getElem?_range (by omega)] at hd
      have := Option.some.inj hd
      rw [← this]
      show D.int (0 + (k : Int)) = _
      rw [Int.zero_add]
    subst hdk
    obtain ⟨r', rows', S', p4, p5, p6, p7, hR', hz', e'⟩ := turn_ok h cs sd k (by omega) (by omega) hR (by omega) o4 o5 o6 o7
    exact ⟨_, S', ⟨r', rows', _, p4, p5, p6, p7, rfl, hR', by omega⟩, e'⟩) _ S ⟨.list [], [], none, none, none, none, none, rfl, ⟨.inl ⟨rfl, rfl⟩, rfl, by simp⟩, by simp⟩
  obtain ⟨r, rows, o3, o4, o5, o6, o7, rfl, hR, hz⟩ := hI
  refine ⟨r, rows, S', hR, by rw [range_len] at hz; omega, ?_⟩
  rw [go_st q]
  rfl
end
end L08
end Mine
end

section
set_option linter.unusedSimpArgs false
set_option maxRecDepth 100000
set_option maxHeartbeats 1000000
namespace Mine
open PySem
section
variable {S : Store}
theorem sub_st {X : EM D} {a i : D} (h : X S = .ok a S) : subS X (ret i) S = itemM a i S := by unfold subS; rw [bnd_st h]; rfl
theorem cons_st {X : EM D} {M : EM (List D)} {d : D} {ds : List D} (h : X S = .ok d S) (g : M S = .ok ds S) : consM X M S = .ok (d :: ds) S := by unfold consM; rw [bnd_st h, bnd_st g]; rfl
theorem len_st {X : EM (List D)} {ds : List D} (h : X S = .ok ds S) : bnd X (fun ds => bf0 .len ds) S = bf0 .len ds S := bnd_st h
theorem ok_ret {α : Type} {a : α} : (ret a : EM α) S = .ok a S := rfl
theorem set_loc {l j : Nat} {rows : List Rw} {r' : Rw} (h : S[l]? = some (.list (rows.map encR))) (hj : j < rows.length) : setItemM (.loc l) (.int j) (encR r') S = .ok () (S.set l (.list ((rows.set j r').map encR))) := by
  unfold setItemM
  dsimp only
  rw [h]
  dsimp only
  rw [if_pos (by rw [List.length_map, Bool.and_eq_true, decide_eq_true_eq, decide_eq_true_eq]; exact ⟨Int.natCast_nonneg j, by omega⟩), Int.toNat_natCast, List.map_set]
  rfl
theorem loc_list {l : Nat} {ds : List D} (h : S[l]? = some (.list ds)) : listOf S (.loc l) = some ds := by
  show (match S[l]? with
    | some (.list ds) => some ds
    | _ => none) = _
  rw [h]
end
namespace L08
section
variable {cf : Str → List D → EM D} {S : Store}
noncomputable abbrev sgB (l : Nat) (xs : List Int) (sd : Int) (o3 o4 o5 : Option D) : Sg := [some (.loc l), some (.list (xs.map D.int)), some (.int sd), o3, o4, o5, none, none, none, none, none, none, none]
theorem it4n (a b c d : Int) (ha : a ≠ 0) (hb : b ≠ 0) (hc : c ≠ 0) (hd : d ≠ 0) (k : Nat) (hk : k < 4) : ∃ i : Int, i ≠ 0 ∧ itemM (.list [D.int a, D.int b, D.int c, D.int d]) (.int k) = ret (.int i) := by
  obtain ⟨_, ⟨i, hi, rfl⟩, e⟩ := it4 (p := fun d => ∃ i : Int, i ≠ 0 ∧ d = .int i) (.int a) (.int b) (.int c) (.int d) k hk ⟨a, ha, rfl⟩ ⟨b, hb, rfl⟩ ⟨c, hc, rfl⟩ ⟨d, hd, rfl⟩
  exact ⟨i, hi, e⟩
/-- one row spoilt in its place -/
theorem put_ok (h : CfG cf) (xs : List Int) (sd : Int) (l k j : Nat) (rows : List Rw) (part : Sx) (hk : k ≤ 3) (hS : S[l]? = some (.list (rows.map encR))) (hj : j < rows.length) (hsp : ∀ x ∈ rows, Sp k x) (hp : part.dep ≤ 3) :
    ∃ rows' : List Rw, rows'.length = rows.length ∧ (∀ x ∈ rows', Sp (k + 1) x) ∧ b__law_all_spoilt_1 cf (sgB l xs sd (some (.int k)) (some (.int j)) (some (enc part))) S = .ok (.next (sgB l xs sd (some (.int k)) (some (.int j)) (some (enc part)))) (S.set l (.list (rows'.map encR))) := by
  obtain ⟨c3, e3⟩ := h.cell xs 3
  obtain ⟨dv, hdv, edv⟩ := it4n 1 11 121 1331 (by decide) (by decide) (by decide) (by decide) k (by omega)
  have hl := loc_list hS
  have hrow : Sp k ((rows[j]?).getD rw0) := by rw [List.getElem?_eq_getElem hj]; exact hsp _ (List.getElem_mem hj)
  obtain ⟨r', er, hr'⟩ := h.spo ((rows[j]?).getD rw0) k (c3.fdiv dv) j rows.length part hk hrow hp
  have it := item_at hl (row_at hj)
  have hn := len_any hl
  rw [List.length_map] at hn
  refine ⟨rows.set j r', by simp, fun x hx => ?_, ?_⟩
  · rcases List.mem_or_eq_of_mem_set hx with q | q
    · exact (hsp x q).mono
    · rw [q]; exact hr'
  · unfold b__law_all_spoilt_1
    refine seq_st (k := nxt) ?_
    simp -implicitDefEqProofs only [lk0, lkS, consM_ret, callN_ret, show cf (Str.ofString "_law_cell_at") [.list (xs.map D.int), .int 3] = _ from e3, calm_ret, lst4', subS_ret, edv, binS_ret, div_ints _ dv hdv, bnd_ret]
    have args : consM (itemM (.loc l) (.int j)) (consM (ret (.int (c3.fdiv dv))) (consM (ret (.int j)) (consM (bf0 .len [.loc l]) (ret [enc part])))) S = .ok [encR ((rows[j]?).getD rw0), .int (c3.fdiv dv), .int j, .int rows.length, enc part] S :=
      cons_st it (cons_st ok_ret (cons_st ok_ret (cons_st hn ok_ret)))
    have call : callN cf (Str.ofString "_law_spoilt") (consM (itemM (.loc l) (.int j)) (consM (ret (.int (c3.fdiv dv))) (consM (ret (.int j)) (consM (bf0 .len [.loc l]) (ret [enc part]))))) S = .ok (encR r') S := by
      unfold callN
      rw [bnd_st args, er]; rfl
    rw [bnd_st call, bnd_st (set_loc hS hj)]
    rfl
theorem at_ok (h : CfG cf) (xs : List Int) (sd : Int) (l k j : Nat) (rows : List Rw) (part : Sx) (hk : k ≤ 3) (hS : S[l]? = some (.list (rows.map encR))) (hj : j < rows.length) (hsp : ∀ x ∈ rows, Sp k x) (hp : part.dep ≤ 3) :
    ∃ (j' : Nat) (rows' : List Rw), rows'.length = rows.length ∧ (∀ x ∈ rows', Sp (k + 1) x) ∧ b__law_all_spoilt_3 cf (sgB l xs sd (some (.int k)) (some (.int j)) (some (enc part))) S = .ok (.next (sgB l xs sd (some (.int k)) (some (.int (j' : Nat))) (some (enc part)))) (S.set l (.list (rows'.map encR))) := by
  have hl := loc_list hS
  have it := item_at hl (row_at hj)
  have hn := len_any hl
  rw [List.length_map] at hn
  obtain ⟨k2, hk2, ek2⟩ := fmod_lit (k : Int) 2 2 (by decide) rfl
  have i3 : subS (itemM (.loc l) (.int j)) (ret (.int 3)) S = .ok (.tuple (((rows[j]?).getD rw0).u.map .int)) S := by
    rw [sub_st it, row3]; rfl
  unfold b__law_all_spoilt_3
  simp -implicitDefEqProofs only [lk0, lkS, binS_ret, mod_ints _ 2 (by decide), ek2, cmpS_ret, cmp_eq, eqM_int, subS_ret]
  have fall : ∀ b : Bool, (b = false) → ∃ (j' : Nat) (rows' : List Rw), rows'.length = rows.length ∧ (∀ x ∈ rows', Sp (k + 1) x) ∧ seqM (if b = true then b__law_all_spoilt_2 cf (sgB l xs sd (some (.int k)) (some (.int j)) (some (enc part))) else nxt (sgB l xs sd (some (.int k)) (some (.int j)) (some (enc part)))) (b__law_all_spoilt_1 cf) S = .ok (.next (sgB l xs sd (some (.int k)) (some (.int (j' : Nat))) (some (enc part)))) (S.set l (.list (rows'.map encR))) := by
    intro b hb
    subst hb
    obtain ⟨rows', h1, h2, h3⟩ := put_ok h xs sd l k j rows part hk hS hj hsp hp
    exact ⟨j, rows', h1, h2, h3⟩
  have if_st : ∀ (m : EM Bool) (b : Bool) (x y : EM Fl) (kk : Sg → EM Fl), m S = .ok b S → seqM (ifM m x y) kk S = seqM (if b = true then x else y) kk S := by
    intro m b x y kk hm
    have q := ifM_st (x := x) (y := y) hm
    unfold seqM bnd
    rw [q]
  cases hk21 : ((k2 : Int) == 1) with
  | false =>
    rw [andM_f, if_st (ret false) false _ _ _ rfl]
    exact fall false rfl
  | true =>
    rw [andM_t]
    have cz : andM (cmpS .Gt (bnd (consM (subS (itemM (.loc l) (.int j)) (ret (.int 3))) (ret [])) fun ds => bf0 .len ds) (ret (.int 0))) (ret true) S = .ok (decide ((0 : Int) < (((rows[j]?).getD rw0).u.length : Int))) S := by
      have z : bnd (consM (subS (itemM (.loc l) (.int j)) (ret (.int 3))) (ret [])) (fun ds => bf0 .len ds) S = .ok (.int ((rows[j]?).getD rw0).u.length) S := by
        rw [len_st (cons_st i3 ok_ret), len_u]; rfl
      unfold andM cmpS
      have z2 : bnd (bnd (consM (subS (itemM (.loc l) (.int j)) (ret (.int 3))) (ret [])) fun ds => bf0 .len ds) (fun a => bnd (ret (.int 0)) fun b => cmpM .Gt a b) S = .ok (decide ((0 : Int) < (((rows[j]?).getD rw0).u.length : Int))) S := by
        rw [bnd_st z]; rfl
      rw [bnd_st z2]
      cases decide ((0 : Int) < (((rows[j]?).getD rw0).u.length : Int)) <;> rfl
    rw [if_st _ _ _ _ _ cz]
    cases hd : decide ((0 : Int) < (((rows[j]?).getD rw0).u.length : Int)) with
    | false => exact fall false rfl
    | true =>
      have hu : 0 < ((rows[j]?).getD rw0).u.length := by have := of_decide_eq_true hd; omega
      have i0 : itemM (.tuple (((rows[j]?).getD rw0).u.map .int)) (.int 0) = ret (.int ((rows[j]?).getD rw0).u[0]) := itemT_at (k := 0) (by rw [List.getElem?_map, List.getElem?_eq_getElem hu]; rfl)
      generalize ((rows[j]?).getD rw0).u[0] = u0 at i0
      have mx : ∃ j' : Nat, j' < rows.length ∧ bfS bMax false (consM (ret (.int 0)) (consM (bfS bMin2 false (consM (binS .Sub (bf0 .len [.loc l]) (ret (.int 1))) (consM (subS (subS (itemM (.loc l) (.int j)) (ret (.int 3))) (ret (.int 0))) (ret [])))) (ret []))) S = .ok (.int (j' : Int)) S := by
        have s0 : subS (subS (itemM (.loc l) (.int j)) (ret (.int 3))) (ret (.int 0)) S = .ok (.int u0) S := by
          rw [sub_st i3, i0]; rfl
        have s1 : binS .Sub (bf0 .len [.loc l]) (ret (.int 1)) S = .ok (.int ((rows.length : Int) - 1)) S := by
          rw [binS_st hn ok_ret]; rfl
        have s2 : bfS bMin2 false (consM (binS .Sub (bf0 .len [.loc l]) (ret (.int 1))) (consM (subS (subS (itemM (.loc l) (.int j)) (ret (.int 3))) (ret (.int 0))) (ret []))) S = .ok (.int (if u0 < (rows.length : Int) - 1 then u0 else (rows.length : Int) - 1)) S := by
          unfold bfS
          rw [bnd_st (cons_st s1 (cons_st s0 ok_ret))]; rfl
        have s3 : bfS bMax false (consM (ret (.int 0)) (consM (bfS bMin2 false (consM (binS .Sub (bf0 .len [.loc l]) (ret (.int 1))) (consM (subS (subS (itemM (.loc l) (.int j)) (ret (.int 3))) (ret (.int 0))) (ret [])))) (ret []))) S = .ok (.int (if (if u0 < (rows.length : Int) - 1 then u0 else (rows.length : Int) - 1) > 0 then (if u0 < (rows.length : Int) - 1 then u0 else (rows.length : Int) - 1) else 0)) S := by
          unfold bfS at s2 ⊢
          rw [bnd_st (cons_st ok_ret (cons_st s2 ok_ret))]; rfl
        rw [s3]
        by_cases q1 : u0 < (rows.length : Int) - 1
        · rw [if_pos q1]
          by_cases q2 : u0 > 0
          · rw [if_pos q2]
            obtain ⟨v, rfl⟩ := Int.eq_ofNat_of_zero_le (Int.le_of_lt q2)
            exact ⟨v, by omega, rfl⟩
          · rw [if_neg q2]; exact ⟨0, by omega, rfl⟩
        · rw [if_neg q1]
          by_cases q2 : (rows.length : Int) - 1 > 0
          · rw [if_pos q2]
            exact ⟨rows.length - 1, by omega, by rw [show ((rows.length - 1 : Nat) : Int) = (rows.length : Int) - 1 from by omega]⟩
          · rw [if_neg q2]; exact ⟨0, by omega, rfl⟩
      obtain ⟨j', hj', ej'⟩ := mx
      obtain ⟨rows', h1, h2, h3⟩ := put_ok h xs sd l k j' rows part hk hS hj' hsp hp
      refine ⟨j', rows', h1, h2, ?_⟩
      rw [if_pos rfl]
      unfold b__law_all_spoilt_2
      simp -implicitDefEqProofs only [lk0, lkS, consM_ret, bnd_ret, subS_ret]
      rw [seqM_seq]
      have q : bnd (bfS bMax false (consM (ret (.int 0)) (consM (bfS bMin2 false (consM (binS .Sub (bf0 .len [.loc l]) (ret (.int 1))) (consM (subS (subS (itemM (.loc l) (.int j)) (ret (.int 3))) (ret (.int 0))) (ret [])))) (ret [])))) (fun d => ret (Fl.next (put (sgB l xs sd (some (.int k)) (some (.int j)) (some (enc part))) 4 d))) S = .ok (.next (sgB l xs sd (some (.int k)) (some (.int j')) (some (enc part)))) S := by
        rw [bnd_st ej']; rfl
      rw [seq_st q]
      exact h3
theorem spoil_turn (h : CfG cf) (xs : List Int) (sd : Int) (l k : Nat) (rows : List Rw) (o4 o5 : Option D) (hk : k ≤ 3) (hS : S[l]? = some (.list (rows.map encR))) (hne : 0 < rows.length) (hsp : ∀ x ∈ rows, Sp k x) :
    ∃ (rows' : List Rw) (p4 p5 : Option D), rows'.length = rows.length ∧ (∀ x ∈ rows', Sp (k + 1) x) ∧ b__law_all_spoilt_5 cf (sgB l xs sd (some (.int k)) o4 o5) S = .ok (.next (sgB l xs sd (some (.int k)) p4 p5)) (S.set l (.list (rows'.map encR))) := by
  obtain ⟨c2, e2⟩ := h.cell xs 2
  obtain ⟨c1, e1⟩ := h.cell xs 1
  obtain ⟨dv, hdv, edv⟩ := it4n 1 7 49 343 (by decide) (by decide) (by decide) (by decide) k (by omega)
  obtain ⟨part, hp, ep⟩ := h.part sd (c1.fdiv 5 + (k : Int))
  obtain ⟨j, hj, ej⟩ := fmod_lit (c2.fdiv dv) rows.length rows.length hne rfl
  have hn := len_any (loc_list hS)
  rw [List.length_map] at hn
  unfold b__law_all_spoilt_5
  simp -implicitDefEqProofs only [lk0, lkS, consM_ret, callN_ret, show cf (Str.ofString "_law_cell_at") [.list (xs.map D.int), .int 2] = _ from e2, calm_ret, lst4', subS_ret, edv, binS_ret, div_ints _ dv hdv, bnd_ret]
  have q : bnd (binS .Mod (ret (.int (c2.fdiv dv))) (bf0 .len [.loc l])) (fun d => ret (Fl.next (put (sgB l xs sd (some (.int k)) o4 o5) 4 d))) S = .ok (.next (sgB l xs sd (some (.int k)) (some (.int j)) o5)) S := by
    have z : binS .Mod (ret (.int (c2.fdiv dv))) (bf0 .len [.loc l]) S = .ok (.int (j : Int)) S := by
      rw [binS_st ok_ret hn, mod_ints _ (rows.length : Int) (by omega), ej]; rfl
    rw [bnd_st z]; rfl
  rw [seq_st q]
  unfold b__law_all_spoilt_4
  simp -implicitDefEqProofs only [lk0, lkS, consM_ret, callN_ret, show cf (Str.ofString "_law_cell_at") [.list (xs.map D.int), .int 1] = _ from e1, calm_ret, binS_ret, div_ints _ 5 (by decide), add_ints, bnd_ret, ep, put0, putS, seqM_next]
  obtain ⟨j', rows', h1, h2, h3⟩ := at_ok h xs sd l k j rows part hk hS hj hsp hp
  exact ⟨rows', _, _, h1, h2, h3⟩
theorem all_spoilt_ok (h : CfG cf) (xs : List Int) (sd : Int) (l : Nat) (rows : List Rw) (hS : S[l]? = some (.list (rows.map encR))) (hne : 0 < rows.length) (hsp : ∀ x ∈ rows, Sp 0 x) :
    ∃ (rows' : List Rw) (S' : Store), rows'.length = rows.length ∧ (∀ x ∈ rows', RwOk x) ∧ S'[l]? = some (.list (rows'.map encR)) ∧ s__law_all_spoilt cf (.loc l) (.list (xs.map D.int)) (.int sd) S = .ok (.loc l) S' := by
  obtain ⟨c1, e1⟩ := h.cell xs 1
  obtain ⟨t, ht, et⟩ := fmod_lit c1 5 5 (by decide) rfl
  unfold s__law_all_spoilt b__law_all_spoilt_6
  simp -implicitDefEqProofs only [lk0, lkS, consM_ret, callN_ret, show cf (Str.ofString "_law_cell_at") [.list (xs.map D.int), .int 1] = _ from e1, calm_ret, binS_ret, mod_ints _ 5 (by decide), et, bnd_ret, show bf0 .range [.int (t : Int)] = ret (.range 0 (t : Int)) from rfl]
  have e : forM' (ret (.range 0 (t : Int))) (fun d σ => b__law_all_spoilt_5 cf (put σ 3 d)) (sgB l xs sd none none none) = forL (fun d σ => b__law_all_spoilt_5 cf (put σ 3 d)) (rangeL 0 (t : Int)) (sgB l xs sd none none none) := by
    unfold forM'
    rw [bnd_ret, items_range (by omega)]; rfl
  rw [e]
  obtain ⟨σ', S', hI, q⟩ := forL_st (body := fun d σ => b__law_all_spoilt_5 cf (put σ 3 d)) (fun k σ S => ∃ (rows' : List Rw) (o3 o4 o5 : Option D), σ = sgB l xs sd o3 o4 o5 ∧ S[l]? = some (.list (rows'.map encR)) ∧ rows'.length = rows.length ∧ ∀ x ∈ rows', Sp k x) (rangeL 0 (t : Int)) 0 (fun k d hd σ S hI => by
    obtain ⟨rows', o3, o4, o5, rfl, hS', hlen, hsp'⟩ := hI
    have hk : k < t := by
      have := (List.getElem?_eq_some_iff.mp hd).1
      rwa [range_len] at this
    have hdk : d = .int (k : Int) := by
      unfold rangeL at hd
      rw [List.getElem?_map, List.getElem?_range (by omega)] at hd
      have := Option.some.inj hd
      rw [← this]
      show D.int (0 + (k : Int)) = _
      rw [Int.zero_add]
    subst hdk
    rw [Nat.zero_add] at hsp' ⊢
    obtain ⟨rows'', p4, p5, h1, h2, h3⟩ := spoil_turn h xs sd l k rows' o4 o5 (by omega) hS' (by omega) hsp'
    exact ⟨_, _, ⟨rows'', _, p4, p5, rfl, set_same hS', by omega, h2⟩, h3⟩) _ S ⟨rows, none, none, none, rfl, hS, rfl, hsp⟩
  obtain ⟨rows', o3, o4, o5, rfl, hS', hlen, hsp'⟩ := hI
  rw [range_len, Nat.zero_add] at hsp'
  refine ⟨rows', S', hlen, fun x hx => (hsp' x hx).ok (by omega), hS', ?_⟩
  rw [go_st q]
  rfl
end
end L08
end Mine
end

section
set_option linter.unusedSimpArgs false
set_option maxRecDepth 100000
set_option maxHeartbeats 1000000
namespace Mine
open PySem
noncomputable def nI (k : Nat) : D := .int (0 + (k : Int))
theorem nI_eq (k : Nat) : nI k = .int k := by unfold nI; rw [Int.zero_add]
theorem pys_nI (l : List Nat) : D.pys (l.map nI) = some (l.map fun (k : Nat) => PyData.int (k : Int)) := by
  induction l with
  | nil => rfl
  | cons y ys ih => rw [List.map_cons, List.map_cons, nI_eq]; unfold D.pys; rw [ih]; rfl
theorem compL_stF {α : Type} {f : α → D} {p : α → Bool} {turn : D → EM (Option D)} {S : Store} : ∀ l : List α, (∀ a ∈ l, turn (f a) S = .ok (if p a then some (f a) else none) S) → compL turn (l.map f) S = .ok ((l.filter p).map f) S
  | [], _ => rfl
  | d :: ds, h => by
    have q : compL turn ((d :: ds).map f) = bnd (turn (f d)) fun x => bnd (compL turn (ds.map f)) fun ys => ret (match x with
      | some y => y :: ys
      | none => ys) := rfl
    rw [q, bnd_st (h d (List.mem_cons_self ..)), bnd_st (compL_stF ds fun x hx => h x (List.mem_cons_of_mem _ hx)), List.filter_cons]
    cases p d <;> rfl
theorem rangeL_nI (n : Nat) : rangeL 0 (n : Int) = (List.range n).map nI := by
  unfold rangeL
  rw [show ((n : Int) - 0).toNat = n from by omega]; rfl
theorem frzS_st {k : Sg → EM D} {σ : Sg} {S S' : Store} {d : D} (h : k (frz S σ) [] = .ok d S') (ha : isAtom d = true) : frzS k σ S = .ok d S := by
  unfold frzS
  rw [h]
  dsimp only
  rw [if_pos ha]
/-- those that do not follow -/
noncomputable def flt (rows : List Rw) (n : Nat) : List Nat := (List.range n).filter fun k => !fol rows k
theorem flt_succ (rows : List Rw) (n : Nat) : flt rows (n + 1) = flt rows n ++ (if fol rows n then [] else [n]) := by
  unfold flt
  rw [List.range_succ, List.filter_append]
  congr 1
  cases h : fol rows n <;> simp [h]
theorem fol_first (rows : List Rw) (h : 0 < rows.length) : fol (rows.take 1) 0 = fol rows 0 := by
  cases rows with
  | nil => cases h
  | cons a l =>
    show folR [a] 0 a = folR (a :: l) 0 a
    unfold folR
    cases ruOf a.r with
    | none => rfl
    | some c =>
      dsimp only
      cases hu : a.u with
      | nil => rfl
      | cons i u =>
        have : (i :: u).all (inRng 0) = false := by
          show (inRng 0 i && u.all (inRng 0)) = false
          have : inRng 0 i = false := by
            unfold inRng
            by_cases q : 0 ≤ i
            · rw [decide_eq_true q, decide_eq_false (by omega)]; rfl
            · rw [decide_eq_false q]; rfl
          rw [this]; rfl
        rw [this]; simp
theorem flt_first (rows : List Rw) : flt (rows.take 1) (rows.take 1).length = (flt rows rows.length).filter fun k => decide (k < 1) := by
  cases rows with
  | nil => rfl
  | cons a l =>
    have e : (flt (a :: l) (a :: l).length).filter (fun k => decide (k < 1)) = (if fol (a :: l) 0 then [] else [0]) := by
      unfold flt
      rw [List.filter_filter, List.length_cons, List.range_succ_eq_map, List.filter_cons]
      have : ((List.range l.length).map Nat.succ).filter (fun x => decide (x < 1) && !fol (a :: l) x) = [] := by
        rw [List.filter_eq_nil_iff]
        intro x hx
        obtain ⟨y, _, rfl⟩ := List.mem_map.mp hx
        simp
      rw [this]
      cases fol (a :: l) 0 <;> simp
    rw [e, ← fol_first (a :: l) (by simp)]
    show flt [a] 1 = _
    rw [flt_succ]
    rfl
section
variable {S : Store} {r : D} {ds : List D}
theorem list_any (h : listOf S r = some ds) : bf0 .list [r] S = .ok (.list ds) S := by
  rcases listOf_cases h with rfl | ⟨k, rfl, e⟩
  · rfl
  · show (match listOf S (.loc k) with
      | some ds => mkList cfg0 pos0 ds S
      | none => .stuck) = _
    rw [h]; rfl
theorem pyAt_any {ps : List PyData} (h : listOf S r = some ds) (hp : D.pys ds = some ps) : pyAt S r = some (.list ps) := by
  rcases listOf_cases h with rfl | ⟨k, rfl, e⟩
  · show (D.pys ds).map PyData.list = _
    rw [hp]; rfl
  · show (match S[k]? with
      | some (.list ds) => (D.pys ds).map PyData.list
      | _ => none) = _
    rw [e]
    show (D.pys ds).map PyData.list = _
    rw [hp]; rfl
theorem eq_any {a b : D} {p q : PyData} (h1 : pyAt S a = some p) (h2 : pyAt S b = some q) (hd : min p.depth q.depth ≤ 600) : eqM a b S = .ok (PyData.eqv p q) S := by
  unfold eqM
  rw [h1, h2]
  dsimp only
  rw [if_pos (by unfold lineOf; exact decide_eq_true hd)]
theorem ints_eq {a b : D} {l : List Nat} (h1 : listOf S a = some (l.map nI)) (h2 : listOf S b = some (l.map nI)) : eqM a b S = .ok true S := by
  have e : (l.map fun (k : Nat) => PyData.int (k : Int)) = (l.map fun (k : Nat) => (k : Int)).map PyData.int := by rw [List.map_map]; rfl
  rw [eq_any (pyAt_any h1 (pys_nI l)) (pyAt_any h2 (pys_nI l))]
  · show Out.ok (PyData.eqvAll _ _) S = _
    rw [e, eqv_ints]
  · show min (PyData.depthAll _ + 1) (PyData.depthAll _ + 1) ≤ 600
    rw [e, depth_ints]; decide
theorem rows_eq {a b : D} {l : List Rw} (h : ∀ x ∈ l, RwOk x) (h1 : listOf S a = some (l.map encR)) (h2 : listOf S b = some (l.map encR)) : eqM a b S = .ok true S := by
  have hd : PyData.depthAll (l.map encRP) ≤ 60 := depthAll_le fun x hx => by
    obtain ⟨r, hr, rfl⟩ := List.mem_map.mp hx
    exact encRP_dep (h r hr)
  rw [eq_any (pyAt_any h1 (pys_rows l)) (pyAt_any h2 (pys_rows l))]
  · show Out.ok (PyData.eqvAll _ _) S = _
    rw [eqvAll_self fun x hx => ?_]
    obtain ⟨r, _, rfl⟩ := List.mem_map.mp hx
    exact eqv_row r
  · show min (PyData.depthAll _ + 1) (PyData.depthAll _ + 1) ≤ 600
    omega
end
namespace L08
section
variable {cf : Str → List D → EM D} {S : Store} {r : D} {rows : List Rw}
theorem faults_ok (h : ∀ n, n < rows.length → cf (Str.ofString "follows") [r, .int n] S = .ok (.bool (fol rows n)) S) (hl : listOf S r = some (rows.map encR)) (hz : rows.length ≤ 1000) :
    s_faults cf r S = .ok (.loc S.length) (S ++ [.list ((flt rows rows.length).map nI)]) := by
  unfold s_faults b_faults_1
  have hn := len_any hl
  rw [List.length_map] at hn
  have cm : compL (t_faults_0 cf [some r, none, none]) ((List.range rows.length).map nI) S = .ok ((flt rows rows.length).map nI) S := by
    refine compL_stF (p := fun k => !fol rows k) _ fun k hk => ?_
    have hk' := List.mem_range.mp hk
    unfold t_faults_0
    show turnS (andM (notM (bnd (callN cf (Str.ofString "follows") (consM (ret r) (consM (ret (nI k)) (ret [])))) truthM)) (ret true)) (ret (nI k)) S = _
    rw [nI_eq]
    have c : callN cf (Str.ofString "follows") (consM (ret r) (consM (ret (.int k)) (ret []))) S = .ok (.bool (fol rows k)) S := by
      show calm (cf (Str.ofString "follows") [r, .int k]) S = _
      exact calm_st (h k hk')
    have n : notM (bnd (callN cf (Str.ofString "follows") (consM (ret r) (consM (ret (.int k)) (ret [])))) truthM) S = .ok (!fol rows k) S := by
      have b : bnd (callN cf (Str.ofString "follows") (consM (ret r) (consM (ret (.int k)) (ret [])))) truthM S = .ok (fol rows k) S := by rw [bnd_st c]; rfl
      unfold notM
      rw [bnd_st b]; rfl
    unfold turnS andM
    rw [bnd_assoc, bnd_st n]
    cases fol rows k <;> rfl
  refine fin_st (seq_ret_st ?_)
  have q : compO (bnd (consM (bnd (consM (ret r) (ret [])) fun ds => bf0 .len ds) (ret [])) fun ds => bf0 .range ds) (t_faults_0 cf [some r, none, none]) S = .ok (.loc S.length) (S ++ [.list ((flt rows rows.length).map nI)]) := by
    have rg : bnd (consM (bnd (consM (ret r) (ret [])) fun ds => bf0 .len ds) (ret [])) (fun ds => bf0 .range ds) S = .ok (.range 0 (rows.length : Int)) S := by
      rw [bnd_st (cons_st (show bnd (consM (ret r) (ret [])) (fun ds => bf0 .len ds) S = _ from hn) ok_ret)]; rfl
    unfold compO
    rw [bnd_st rg, items_range hz]
    show bnd (compL _ (rangeL 0 (rows.length : Int))) _ S = _
    rw [rangeL_nI, bnd_st cm]; rfl
  show bnd (compO (bnd (consM (bnd (consM (ret r) (ret [])) fun ds => bf0 .len ds) (ret [])) fun ds => bf0 .range ds) (t_faults_0 cf [some r, none, none])) (fun d => ret (Fl.ret d)) S = _
  rw [bnd_st q]; rfl
structure Cf8 (cf : Str → List D → EM D) : Prop where
  cell : ∀ (xs : List Int) (k : Nat), ∃ i : Int, cf (Str.ofString "_law_cell_at") [.list (xs.map D.int), .int k] = ret (.int i)
  rb : ∀ (cs : List Int) (sd : Int) (S : Store), ∃ (r : D) (rows : List Rw) (S' : Store), RwB S' r rows ∧ rows.length ≤ 40 ∧ cf (Str.ofString "_law_rows_by") [.list (cs.map D.int), .int sd] S = .ok r S'
  sp : ∀ (xs : List Int) (sd : Int) (l : Nat) (rows : List Rw) (S : Store), S[l]? = some (.list (rows.map encR)) → 0 < rows.length → (∀ x ∈ rows, Sp 0 x) → ∃ (rows' : List Rw) (S' : Store), rows'.length = rows.length ∧ (∀ x ∈ rows', RwOk x) ∧ S'[l]? = some (.list (rows'.map encR)) ∧ cf (Str.ofString "_law_all_spoilt") [.loc l, .list (xs.map D.int), .int sd] S = .ok (.loc l) S'
  fo : ∀ (S : Store) (r : D) (rows : List Rw) (n : Nat), listOf S r = some (rows.map encR) → n < rows.length → (∀ x ∈ rows, RwOk x) → cf (Str.ofString "follows") [r, .int n] S = .ok (.bool (fol rows n)) S
  lf : ∀ (S : Store) (r : D) (rows : List Rw) (n : Nat), listOf S r = some (rows.map encR) → n < rows.length → (∀ x ∈ rows, RwOk x) → cf (Str.ofString "_law_follows") [r, .int n] S = .ok (.bool (fol rows n)) (S ++ [.dict cntL])
  fa : ∀ (S : Store) (r : D) (rows : List Rw), listOf S r = some (rows.map encR) → (∀ x ∈ rows, RwOk x) → rows.length ≤ 1000 → cf (Str.ofString "faults") [r] S = .ok (.loc S.length) (S ++ [.list ((flt rows rows.length).map nI)])
noncomputable abbrev sg8 (xs : List Int) (sd : Int) (r : D) (o3 o4 o5 o6 : Option D) : Sg := [some (.list (xs.map D.int)), some (.int sd), some r, o3, o4, o5, o6, none, none, none, none, none, none, none, none, none, none, none]
/-- the last line, in the frozen view -/
theorem end_ok (h : Cf8 cf) (xs : List Int) (sd : Int) (d : Nat) (o3 o5 o6 : Option D) (hl : listOf S r = some (rows.map encR)) (hr : ∀ x ∈ rows, RwOk x) (hz : rows.length ≤ 1000) (hd : S[d]? = some (.list ((flt rows rows.length).map nI))) :
    finM (b_law_1 cf (sg8 xs sd r o3 (some (.loc d)) o5 o6)) S = .ok (.bool true) S := by
  have f2 : frzD S r = some (.list (rows.map encR)) := by
    rcases listOf_cases hl with rfl | ⟨k, rfl, e⟩
    · show (if ((D.pys (rows.map encR)).map PyData.list).isSome then some (D.list (rows.map encR)) else none) = _
      rw [pys_rows]; rfl
    · show (match S[k]? with
        | some (.list ds) => if (D.pys ds).isSome then some (D.list ds) else none
        | _ => none) = _
      rw [e]
      show (if (D.pys (rows.map encR)).isSome then some (D.list (rows.map encR)) else none) = _
      rw [pys_rows]; rfl
  have f4 : frzD S (.loc d) = some (.list ((flt rows rows.length).map nI)) := by
    show (match S[d]? with
      | some (.list ds) => if (D.pys ds).isSome then some (D.list ds) else none
      | _ => none) = _
    rw [hd]
    show (if (D.pys ((flt rows rows.length).map nI)).isSome then some (D.list ((flt rows rows.length).map nI)) else none) = _
    rw [pys_nI]; rfl
  unfold b_law_1
  refine fin_st (seq_ret_st ?_)
  have key : ∀ σ : Sg, lk σ 2 = ret (.list (rows.map encR)) → lk σ 4 = ret (.list ((flt rows rows.length).map nI)) →
      ∃ S', (andV (cmpB .Eq (callN cf (Str.ofString "faults") (consM (lk σ 2) (ret []))) (lk σ 4)) (cmpB .Eq (callN cf (Str.ofString "faults") (consM (sliS (lk σ 2) (ret .none) (ret (.int 1))) (ret []))) (comp0 (lk σ 4) (t_law_0 cf σ)))) [] = .ok (.bool true) S' := by
    intro σ h2 h4
    rw [h2, h4]
    have a1 := h.fa [] (.list (rows.map encR)) rows rfl hr hz
    have e1 : cmpB .Eq (callN cf (Str.ofString "faults") (consM (ret (.list (rows.map encR))) (ret []))) (ret (.list ((flt rows rows.length).map nI))) [] = .ok (.bool true) [.list ((flt rows rows.length).map nI)] := by
      unfold cmpB
      have c : callN cf (Str.ofString "faults") (consM (ret (.list (rows.map encR))) (ret [])) [] = .ok (.loc 0) [.list ((flt rows rows.length).map nI)] := by
        show calm (cf (Str.ofString "faults") [.list (rows.map encR)]) [] = _
        exact calm_st a1
      rw [bnd_st c]
      have e : eqM (.loc 0) (.list ((flt rows rows.length).map nI)) [.list ((flt rows rows.length).map nI)] = .ok true [.list ((flt rows rows.length).map nI)] := ints_eq (loc_list rfl) rfl
      show bnd (eqM (.loc 0) (.list ((flt rows rows.length).map nI))) (fun c => ret (D.bool c)) _ = _
      rw [bnd_st e]; rfl
    have hs : sli0 (.list (rows.map encR)) .none (.int 1) = ret (.list ((rows.take 1).map encR)) := by
      have : cut none (some 1) rows = rows.take 1 := by
        cases rows with
        | nil => rfl
        | cons a l => exact cut_to (k := 1) (by simp)
      rw [← this, ← cut_map]; rfl
    have hr1 : ∀ x ∈ rows.take 1, RwOk x := fun x hx => hr x (List.mem_of_mem_take hx)
    have hz1 : (rows.take 1).length ≤ 1000 := by rw [List.length_take]; omega
    have a2 := h.fa [.list ((flt rows rows.length).map nI)] (.list ((rows.take 1).map encR)) (rows.take 1) rfl hr1 hz1
    refine ⟨[.list ((flt rows rows.length).map nI)] ++ [.list ((flt (rows.take 1) (rows.take 1).length).map nI)], ?_⟩
    unfold andV
    rw [bnd_st e1]
    show cmpB .Eq (callN cf (Str.ofString "faults") (consM (sliS (ret (.list (rows.map encR))) (ret .none) (ret (.int 1))) (ret []))) (comp0 (ret (.list ((flt rows rows.length).map nI))) (t_law_0 cf σ)) [.list ((flt rows rows.length).map nI)] = _
    have c2 : callN cf (Str.ofString "faults") (consM (sliS (ret (.list (rows.map encR))) (ret .none) (ret (.int 1))) (ret [])) [.list ((flt rows rows.length).map nI)] = .ok (.loc 1) ([.list ((flt rows rows.length).map nI)] ++ [.list ((flt (rows.take 1) (rows.take 1).length).map nI)]) := by
      rw [sliS_ret, hs]
      show calm (cf (Str.ofString "faults") [.list ((rows.take 1).map encR)]) _ = _
      exact calm_st a2
    have cp : comp0 (ret (.list ((flt rows rows.length).map nI))) (t_law_0 cf σ) = ret (.list (((flt rows rows.length).filter fun k => decide (k < 1)).map nI)) := by
      funext S2
      show bnd (compL (t_law_0 cf σ) ((flt rows rows.length).map nI)) (fun ys => mkList cfg0 pos0 ys) S2 = _
      rw [bnd_st (compL_stF (p := fun k => decide (k < 1)) _ fun k hk => ?_)]
      · rfl
      · unfold t_law_0
        show turnS (andM (cmpS .Lt (ret (nI k)) (ret (.int 1))) (ret true)) (ret (nI k)) S2 = _
        rw [nI_eq, cmpS_ret, lt_ints, andM_rr, Bool.and_true]
        have : decide ((k : Int) < 1) = decide (k < 1) := by
          rw [Bool.eq_iff_iff]; simp; omega
        rw [this]
        cases decide (k < 1) <;> rfl
    rw [cp, ← flt_first]
    unfold cmpB
    rw [bnd_st c2]
    have e : eqM (.loc 1) (.list ((flt (rows.take 1) (rows.take 1).length).map nI)) ([.list ((flt rows rows.length).map nI)] ++ [.list ((flt (rows.take 1) (rows.take 1).length).map nI)]) = .ok true ([.list ((flt rows rows.length).map nI)] ++ [.list ((flt (rows.take 1) (rows.take 1).length).map nI)]) := ints_eq (loc_list rfl) rfl
    show bnd (eqM (.loc 1) (.list ((flt (rows.take 1) (rows.take 1).length).map nI))) (fun c => ret (D.bool c)) _ = _
    rw [bnd_st e]; rfl
  obtain ⟨S', e⟩ := key (frz S (sg8 xs sd r o3 (some (.loc d)) o5 o6)) (by show lk (_ :: _ :: (frzD S r) :: _) 2 = _; rw [f2]; rfl) (by show lk (_ :: _ :: _ :: _ :: (frzD S (.loc d)) :: _) 4 = _; rw [f4]; rfl)
  have z : frzS (fun σ => andV (cmpB .Eq (callN cf (Str.ofString "faults") (consM (lk σ 2) (ret []))) (lk σ 4)) (cmpB .Eq (callN cf (Str.ofString "faults") (consM (sliS (lk σ 2) (ret .none) (ret (.int 1))) (ret []))) (comp0 (lk σ 4) (t_law_0 cf σ)))) (sg8 xs sd r o3 (some (.loc d)) o5 o6) S = .ok (.bool true) S := frzS_st e rfl
  rw [bnd_st z]; rfl
end
end L08
end Mine
end

section
set_option linter.unusedSimpArgs false
set_option maxRecDepth 100000
set_option maxHeartbeats 1000000
namespace Mine
open PySem
section
variable {S S1 : Store} {r : D} {ds : List D}
theorem listOf_set {d : Nat} {o : SObj} (hne : ∀ l, r = .loc l → l ≠ d) (h : listOf S r = some ds) : listOf (S.set d o) r = some ds := by
  rcases listOf_cases h with rfl | ⟨k, rfl, e⟩
  · rfl
  · show (match (S.set d o)[k]? with
      | some (.list ds) => some ds
      | _ => none) = _
    rw [List.getElem?_set_ne (Ne.symm (hne k rfl)), e]
theorem loc_lt {l : Nat} (h : listOf S (.loc l) = some ds) : l < S.length := by
  rcases listOf_cases h with q | ⟨k, q, e⟩
  · cases q
  · cases q; exact (List.getElem?_eq_some_iff.mp e).1
theorem notM_st {m : EM Bool} {b : Bool} (h : m S = .ok b S1) : notM m S = .ok (!b) S1 := by unfold notM; rw [bnd_st h]; rfl
theorem orM_st {m k : EM Bool} (h : m S = .ok false S1) : orM m k S = k S1 := by unfold orM; rw [bnd_st h]
theorem truth_st {m : EM D} {b : Bool} (h : m S = .ok (.bool b) S1) : bnd m truthM S = .ok b S1 := by rw [bnd_st h]; rfl
theorem seq_if_st {m : EM Bool} {b : Bool} {x y : EM Fl} {k : Sg → EM Fl} (h : m S = .ok b S1) : seqM (ifM m x y) k S = seqM (if b then x else y) k S1 := by
  have q := ifM_st (x := x) (y := y) h
  generalize ifM m x y = a at q
  unfold seqM bnd
  rw [q]
end
namespace L08
section
variable {cf : Str → List D → EM D} {S : Store} {r : D} {rows : List Rw}
/-- what holds between two turns of the law's loop -/
structure Mid8 (rows : List Rw) (r : D) (d k : Nat) (S : Store) : Prop where
  at' : listOf S r = some (rows.map encR)
  due : S[d]? = some (.list ((flt rows k).map nI))
  ne : ∀ l, r = .loc l → l ≠ d
theorem flt_len (rows : List Rw) (n : Nat) : (flt rows n).length ≤ n := by
  unfold flt
  exact Nat.le_trans (List.length_filter_le _ _) (by simp)
theorem turn8 (h : Cf8 cf) (xs : List Int) (sd : Int) (o3 o6 : Option D) (d k : Nat) (hk : k < rows.length) (hz : rows.length ≤ 900) (hr : ∀ x ∈ rows, RwOk x) (M : Mid8 rows r d k S) :
    ∃ S' p6, Mid8 rows r d (k + 1) S' ∧ b_law_10 cf (sg8 xs sd r o3 (some (.loc d)) (some (nI k)) o6) S = .ok (.next (sg8 xs sd r o3 (some (.loc d)) (some (nI k)) p6)) S' := by
  have f1 := h.fo S r rows k M.at' hk hr
  have f2 := h.lf S r rows k M.at' hk hr
  have hdl := (List.getElem?_eq_some_iff.mp M.due).1
  have due1 : (S ++ [SObj.dict cntL])[d]? = some (.list ((flt rows k).map nI)) := by rw [List.getElem?_append_left hdl]; exact M.due
  have at1 := listOf_grow [.dict cntL] M.at'
  have e7 : b_law_10 cf (sg8 xs sd r o3 (some (.loc d)) (some (nI k)) o6) S = b_law_7 cf (sg8 xs sd r o3 (some (.loc d)) (some (nI k)) (some (.bool (fol rows k)))) (S ++ [.dict cntL]) := by
    rw [nI_eq]
    unfold b_law_10
    simp -implicitDefEqProofs only [lk0, lkS, consM_ret, bnd_ret]
    have q1 : bnd (cf (Str.ofString "follows") [r, .int k]) (fun d' => ret (Fl.next (put (sg8 xs sd r o3 (some (.loc d)) (some (.int k)) o6) 6 d'))) S = .ok (.next (sg8 xs sd r o3 (some (.loc d)) (some (.int k)) (some (.bool (fol rows k))))) S := by
      rw [bnd_st f1]; rfl
    rw [seq_st q1]
    unfold b_law_9
    simp -implicitDefEqProofs only [lk0, lkS, isa_bool, bnd_ret, truth_bool, notM_ret, Bool.not_true, orM_f, consM_ret, callN_ret]
    have c : orM (cmpS .NotEq (ret (.bool (fol rows k))) (calm (cf (Str.ofString "_law_follows") [r, .int k]))) (ret false) S = .ok false (S ++ [.dict cntL]) := by
      have z : cmpS .NotEq (ret (.bool (fol rows k))) (calm (cf (Str.ofString "_law_follows") [r, .int k])) S = .ok false (S ++ [.dict cntL]) := by
        show bnd (calm (cf (Str.ofString "_law_follows") [r, .int k])) (fun b => cmpM .NotEq (.bool (fol rows k)) b) S = _
        rw [bnd_st (calm_st f2), cmp_ne, eqM_bool, bnd_ret]
        cases fol rows k <;> rfl
      rw [orM_st z]; rfl
    rw [seq_if_st c]
    rfl
  rw [e7]
  unfold b_law_7
  simp -implicitDefEqProofs only [lk0, lkS, bnd_ret, truth_bool, notM_ret]
  cases hf : fol rows k with
  | true =>
    refine ⟨S ++ [.dict cntL], _, ⟨at1, ?_, M.ne⟩, rfl⟩
    rw [flt_succ, hf]; simpa using due1
  | false =>
    simp -implicitDefEqProofs only [Bool.not_false, ifM_true]
    unfold b_law_6
    have hl := flt_len rows k
    have ap := app_loc (d := nI k) due1 (by rw [List.length_map]; omega)
    refine ⟨(S ++ [SObj.dict cntL]).set d (.list ((flt rows k).map nI ++ [nI k])), some (.bool false), ⟨listOf_set M.ne at1, ?_, M.ne⟩, ?_⟩
    · rw [set_same due1, flt_succ, hf]; simp
    · simp -implicitDefEqProofs only [lk0, lkS, consM_ret]
      rw [seqM_seq]
      have q : bnd (methS mAppend (ret (.loc d)) (ret [nI k])) (fun _ => ret (Fl.next (sg8 xs sd r o3 (some (.loc d)) (some (nI k)) (some (.bool false))))) (S ++ [.dict cntL]) = .ok (.next (sg8 xs sd r o3 (some (.loc d)) (some (nI k)) (some (.bool false)))) ((S ++ [SObj.dict cntL]).set d (.list ((flt rows k).map nI ++ [nI k]))) := by
        rw [bnd_st ap]; rfl
      rw [seq_st q]
      rfl
theorem loop8 (h : Cf8 cf) (xs : List Int) (sd : Int) (o3 : Option D) (d : Nat) (hz : rows.length ≤ 900) (hr : ∀ x ∈ rows, RwOk x) (M : Mid8 rows r d 0 S) :
    ∃ S' o5 o6, Mid8 rows r d rows.length S' ∧ finM (b_law_11 cf (sg8 xs sd r o3 (some (.loc d)) none none)) S = finM (b_law_5 cf (sg8 xs sd r o3 (some (.loc d)) o5 o6)) S' := by
  unfold b_law_11
  simp -implicitDefEqProofs only [lk0, lkS, consM_ret, bnd_ret]
  have hn := len_any M.at'
  rw [List.length_map] at hn
  have e : forM' (bnd (consM (bf0 .len [r]) (ret [])) fun ds => bf0 .range ds) (fun d σ => b_law_10 cf (put σ 5 d)) (sg8 xs sd r o3 (some (.loc d)) none none) S = forL (fun d σ => b_law_10 cf (put σ 5 d)) (rangeL 0 (rows.length : Int)) (sg8 xs sd r o3 (some (.loc d)) none none) S := by
    have rg : bnd (consM (bf0 .len [r]) (ret [])) (fun ds => bf0 .range ds) S = .ok (.range 0 (rows.length : Int)) S := by
      rw [bnd_st (cons_st hn ok_ret)]; rfl
    unfold forM'
    rw [bnd_st rg, items_range (by omega)]; rfl
  obtain ⟨σ', S', hI, q⟩ := forL_st (body := fun d σ => b_law_10 cf (put σ 5 d)) (fun k σ S => ∃ o5 o6, σ = sg8 xs sd r o3 (some (.loc d)) o5 o6 ∧ Mid8 rows r d k S) (rangeL 0 (rows.length : Int)) 0 (fun k d' hd σ S hI => by
    obtain ⟨o5, o6, rfl, M⟩ := hI
    have hk : k < rows.length := by
      have := (List.getElem?_eq_some_iff.mp hd).1
      rwa [range_len] at this
    have hdk : d' = nI k := by
      rw [rangeL_nI, List.getElem?_map, List.getElem?_range hk] at hd
      exact (Option.some.inj hd).symm
    subst hdk
    rw [Nat.zero_add] at M ⊢
    obtain ⟨S', p6, M', e'⟩ := turn8 h xs sd o3 o6 d k hk hz hr M
    exact ⟨_, S', ⟨_, p6, rfl, M'⟩, e'⟩) _ S ⟨none, none, rfl, M⟩
  obtain ⟨o5, o6, rfl, M'⟩ := hI
  rw [range_len, Nat.zero_add] at M'
  refine ⟨S', o5, o6, M', ?_⟩
  exact go_st (e.trans q)
theorem isa_list_st {n : Nat} {ds : List D} (h : S[n]? = some (.list ds)) : isaX [] (Str.ofString "list") (ret (.loc n)) S = .ok (.bool true) S := by
  unfold isaX
  rw [bnd_ret]
  show bnd (isaM (cfgX []) (.loc n) (Str.ofString "list")) (fun b => ret (D.bool b)) S = _
  have z : isaM (cfgX []) (.loc n) (Str.ofString "list") S = .ok true S := by
    unfold isaM
    dsimp only
    rw [h]; rfl
  rw [bnd_st z]; rfl
theorem tail8 (h : Cf8 cf) (xs : List Int) (sd : Int) (d : Nat) (o5 o6 : Option D) (hz : rows.length ≤ 900) (hr : ∀ x ∈ rows, RwOk x) (M : Mid8 rows r d rows.length S) :
    ∃ S', finM (b_law_5 cf (sg8 xs sd r (some (.list (rows.map encR))) (some (.loc d)) o5 o6)) S = .ok (.bool true) S' := by
  have f := h.fa S r rows M.at' hr (by omega)
  have hdl := (List.getElem?_eq_some_iff.mp M.due).1
  have due1 : ∀ o : SObj, (S ++ [o])[d]? = some (.list ((flt rows rows.length).map nI)) := fun o => by rw [List.getElem?_append_left hdl]; exact M.due
  unfold b_law_5
  simp -implicitDefEqProofs only [lk0, lkS, consM_ret, bnd_ret]
  have q5 : bnd (cf (Str.ofString "faults") [r]) (fun d' => ret (Fl.next (put (sg8 xs sd r (some (.list (rows.map encR))) (some (.loc d)) o5 o6) 6 d'))) S = .ok (.next (sg8 xs sd r (some (.list (rows.map encR))) (some (.loc d)) o5 (some (.loc S.length)))) (S ++ [.list ((flt rows rows.length).map nI)]) := by
    rw [bnd_st f]; rfl
  rw [go_st q5]
  unfold b_law_4
  have hf := last_st S (.list ((flt rows rows.length).map nI))
  have at1 := listOf_grow [.list ((flt rows rows.length).map nI)] M.at'
  have c : orM (notM (bnd (isaX [] (Str.ofString "list") (ret (.loc S.length))) truthM)) (orM (cmpS .NotEq (ret (.loc S.length)) (ret (.loc d))) (orM (cmpS .NotEq (ret r) (ret (.list (rows.map encR)))) (ret false))) (S ++ [.list ((flt rows rows.length).map nI)]) = .ok false (S ++ [.list ((flt rows rows.length).map nI)]) := by
    rw [orM_st (notM_st (truth_st (isa_list_st hf)))]
    have z1 : cmpS .NotEq (ret (.loc S.length)) (ret (.loc d)) (S ++ [.list ((flt rows rows.length).map nI)]) = .ok false (S ++ [.list ((flt rows rows.length).map nI)]) := by
      rw [cmpS_ret, cmp_ne, bnd_st (ints_eq (loc_list hf) (loc_list (due1 _)))]; rfl
    rw [orM_st z1]
    have z2 : cmpS .NotEq (ret r) (ret (.list (rows.map encR))) (S ++ [.list ((flt rows rows.length).map nI)]) = .ok false (S ++ [.list ((flt rows rows.length).map nI)]) := by
      rw [cmpS_ret, cmp_ne, bnd_st (rows_eq hr at1 rfl)]; rfl
    rw [orM_st z2]; rfl
  simp -implicitDefEqProofs only [lk0, lkS]
  rw [fin_if_st c]
  show ∃ S', finM (b_law_2 cf (sg8 xs sd r (some (.list (rows.map encR))) (some (.loc d)) o5 (some (.loc S.length)))) (S ++ [.list ((flt rows rows.length).map nI)]) = .ok (.bool true) S'
  unfold b_law_2
  have hl := flt_len rows rows.length
  have ap := app_loc (d := .int 5) hf (by rw [List.length_map]; omega)
  rw [set_st] at ap
  simp -implicitDefEqProofs only [lk0, lkS, consM_ret]
  have q2 : bnd (methS mAppend (ret (.loc S.length)) (ret [.int 5])) (fun _ => ret (Fl.next (sg8 xs sd r (some (.list (rows.map encR))) (some (.loc d)) o5 (some (.loc S.length))))) (S ++ [.list ((flt rows rows.length).map nI)]) = .ok (.next (sg8 xs sd r (some (.list (rows.map encR))) (some (.loc d)) o5 (some (.loc S.length)))) (S ++ [.list ((flt rows rows.length).map nI ++ [.int 5])]) := by
    rw [bnd_st ap]; rfl
  rw [go_st q2]
  exact ⟨_, end_ok h xs sd d _ _ _ (listOf_grow _ M.at') hr (by omega) (due1 _)⟩
theorem body8 (h : Cf8 cf) (xs : List Int) (sd : Int) (hz : rows.length ≤ 900) (hr : ∀ x ∈ rows, RwOk x) (hl : listOf S r = some (rows.map encR)) :
    ∃ S', finM (b_law_13 cf (sg8 xs sd r none none none none)) S = .ok (.bool true) S' := by
  unfold b_law_13
  simp -implicitDefEqProofs only [lk0, lkS, consM_ret, bnd_ret]
  have q3 : bnd (bf0 .list [r]) (fun d' => ret (Fl.next (put (sg8 xs sd r none none none none) 3 d'))) S = .ok (.next (sg8 xs sd r (some (.list (rows.map encR))) none none none)) S := by
    rw [bnd_st (list_any hl)]; rfl
  rw [go_st q3]
  unfold b_law_12
  have q4 : bnd (lstO' (ret [])) (fun d' => ret (Fl.next (put (sg8 xs sd r (some (.list (rows.map encR))) none none none) 4 d'))) S = .ok (.next (sg8 xs sd r (some (.list (rows.map encR))) (some (.loc S.length)) none none)) (S ++ [.list []]) := by
    have z : lstO' (ret []) S = .ok (.loc S.length) (S ++ [.list []]) := rfl
    rw [bnd_st z]; rfl
  rw [go_st q4]
  have M : Mid8 rows r S.length 0 (S ++ [.list []]) := ⟨listOf_grow _ hl, last_st S _, fun l e => by subst e; exact Nat.ne_of_lt (loc_lt hl)⟩
  obtain ⟨S', o5, o6, M', e⟩ := loop8 h xs sd (some (.list (rows.map encR))) S.length hz hr M
  rw [e]
  exact tail8 h xs sd S.length o5 o6 hz hr M'
theorem law_ok (h : Cf8 cf) (xs : List Int) (S : Store) : ∃ S', s_law cf (.list (xs.map D.int)) S = .ok (.bool true) S' := by
  obtain ⟨sd, e0⟩ := h.cell xs 0
  obtain ⟨r, rows, S1, hR, hz, er⟩ := h.rb (cut (some 4) (some 24) xs) sd S
  have sl : sli0 (.list (xs.map D.int)) (.int 4) (.int 24) = ret (.list ((cut (some 4) (some 24) xs).map D.int)) := by
    rw [← cut_map]; rfl
  unfold s_law b_law_17
  simp -implicitDefEqProofs only [lk0, lkS, consM_ret, bnd_ret, show cf (Str.ofString "_law_cell_at") [.list (xs.map D.int), .int 0] = _ from e0, put0, putS, seqM_next]
  unfold b_law_16
  simp -implicitDefEqProofs only [lk0, lkS, sliS_ret, sl, consM_ret, bnd_ret]
  have q16 : ∀ o2 : Option D, bnd (cf (Str.ofString "_law_rows_by") [.list ((cut (some 4) (some 24) xs).map D.int), .int sd]) (fun d' => ret (Fl.next (put ([some (.list (xs.map D.int)), some (.int sd), o2, none, none, none, none, none, none, none, none, none, none, none, none, none, none, none] : Sg) 2 d'))) S = .ok (.next (sg8 xs sd r none none none none)) S1 := fun o2 => by
    rw [bnd_st er]; rfl
  rw [go_st (q16 none)]
  unfold b_law_15
  simp -implicitDefEqProofs only [lk0, lkS, consM_ret, bnd_ret]
  have hn := len_any hR.at'
  rw [List.length_map] at hn
  have c : cmpS .Gt (bf0 .len [r]) (ret (.int 0)) S1 = .ok (decide ((0 : Int) < (rows.length : Int))) S1 := by
    unfold cmpS
    rw [bnd_st hn]; rfl
  rw [fin_if_st c]
  cases hd : decide ((0 : Int) < (rows.length : Int)) with
  | false =>
    have h0 : rows = [] := by
      have := of_decide_eq_false hd
      exact List.length_eq_zero_iff.mp (by omega)
    subst h0
    exact body8 h xs sd (by simp) (by simp) hR.at'
  | true =>
    have hp : 0 < rows.length := by have := of_decide_eq_true hd; omega
    obtain ⟨l, rfl⟩ : ∃ l, r = .loc l := by
      rcases hR.kind with ⟨_, q⟩ | q
      · rw [q] at hp; exact absurd hp (by simp)
      · exact q
    have hS1 : S1[l]? = some (.list (rows.map encR)) := by
      rcases listOf_cases hR.at' with q | ⟨k, q, e⟩
      · cases q
      · cases q; exact e
    obtain ⟨rows', S2, hlen, hr', hS2, e2⟩ := h.sp xs sd l rows S1 hS1 hp hR.sp
    rw [if_pos rfl]
    unfold b_law_14
    simp -implicitDefEqProofs only [lk0, lkS, consM_ret, bnd_ret]
    have q14 : bnd (cf (Str.ofString "_law_all_spoilt") [.loc l, .list (xs.map D.int), .int sd]) (fun d' => ret (Fl.next (put (sg8 xs sd (.loc l) none none none none) 2 d'))) S1 = .ok (.next (sg8 xs sd (.loc l) none none none none)) S2 := by
      rw [bnd_st e2]; rfl
    rw [seqM_seq, go_st q14]
    exact body8 h xs sd (by omega) hr' (loc_list hS2)
end
end L08
end Mine
end

section
set_option linter.unusedSimpArgs false
set_option maxRecDepth 100000
set_option maxHeartbeats 1000000
namespace Mine
open PySem
namespace L08
theorem c_A (n : Nat) : CfA (callF C08 (n + 1)) := ⟨fun l g m h => by
  have : callF C08 (n + 1) (Str.ofString "are_among") [.tuple (l.map enc), .tuple (g.map enc), .tuple (m.map enc)] = s_are_among (callF C08 n) (.tuple (l.map enc)) (.tuple (g.map enc)) (.tuple (m.map enc)) := by kernel_rfl
  rw [this]; exact are_among_ok _ l g m h⟩
theorem c_B (n : Nat) : CfB (callF C08 (n + 2)) := { c_A (n + 1) with
  fr := fun r g st m h => by
    have : callF C08 (n + 2) (Str.ofString "is_from") [encR r, .tuple (g.map enc), enc st, .tuple (m.map enc)] = s_is_from (callF C08 (n + 1)) (encR r) (.tuple (g.map enc)) (enc st) (.tuple (m.map enc)) := by kernel_rfl
    rw [this]; exact is_from_ok (c_A n) r g st m h
  j1 := fun r g w part h => by
    have : callF C08 (n + 2) (Str.ofString "is_joined") [encR r, .tuple (g.map enc), .str (W3.s w), .int 1, enc part] = s_is_joined (callF C08 (n + 1)) (encR r) (.tuple (g.map enc)) (.str (W3.s w)) (.int 1) (enc part) := by kernel_rfl
    rw [this]; exact (is_joined_ok (c_A n) r g w part h).1
  j2 := fun r g w part h => by
    have : callF C08 (n + 2) (Str.ofString "is_joined") [encR r, .tuple (g.map enc), .str (W3.s w), .int 2, enc part] = s_is_joined (callF C08 (n + 1)) (encR r) (.tuple (g.map enc)) (.str (W3.s w)) (.int 2) (enc part) := by kernel_rfl
    rw [this]; exact (is_joined_ok (c_A n) r g w part h).2 }
theorem c_C (n : Nat) : CfC (callF C08 (n + 3)) := { c_B (n + 1) with
  sh := fun a b c g s ha hb hc => by
    have : callF C08 (n + 3) (Str.ofString "is_shared") [.list [encR a, encR b, encR c], .tuple (g.map enc), enc s] = s_is_shared (callF C08 (n + 2)) (.list [encR a, encR b, encR c]) (.tuple (g.map enc)) (enc s) := by kernel_rfl
    rw [this]; exact is_shared_ok (c_B n) a b c g s ha hb hc
  md := fun g s c ups hu hc hl => by
    have : callF C08 (n + 3) (Str.ofString "is_made") [.tuple (g.map enc), enc s, .str c.s, .list (ups.map encR)] = s_is_made (callF C08 (n + 2)) (.tuple (g.map enc)) (enc s) (.str c.s) (.list (ups.map encR)) := by kernel_rfl
    rw [this]; exact is_made_ok (c_B n) g s c ups hu hc hl }
theorem c_F (n : Nat) : CfF (callF C08 (n + 1)) := ⟨fun r g st m sup hm h => by
  have : callF C08 (n + 1) (Str.ofString "_law_from") [encR r, .tuple (g.map enc), enc st, sup] = s__law_from (callF C08 n) (encR r) (.tuple (g.map enc)) (enc st) sup := by kernel_rfl
  rw [this]; exact law_from_ok _ r g st m sup hm h⟩
theorem c_R (n : Nat) : CfR (callF C08 (n + 4)) where
  rl := fun g s c ups hs hu hl => by
    have : callF C08 (n + 4) (Str.ofString "is_ruled") [.tuple (g.map enc), enc s, .str c.s, .list (ups.map encR)] = s_is_ruled (callF C08 (n + 3)) (.tuple (g.map enc)) (enc s) (.str c.s) (.list (ups.map encR)) := by kernel_rfl
    rw [this]; exact is_ruled_ok (c_C n) g s c ups hs hu hl
  up := fun row c ups hc hs hu hl => by
    have : callF C08 (n + 4) (Str.ofString "_law_ups_right") [encR row, .list (ups.map encR)] = s__law_ups_right (callF C08 (n + 3)) (encR row) (.list (ups.map encR)) := by kernel_rfl
    rw [this]; exact law_ups_ok (c_F (n + 2)) row c ups hc hs hu hl
theorem c_N (n : Nat) : CfN (callF C08 (n + 1)) := ⟨fun sd k hk => by
  have : callF C08 (n + 1) (Str.ofString "_law_name_by") [.int sd, .int k] = s__law_name_by mIndexS (callF C08 n) (.int sd) (.int k) := by kernel_rfl
  obtain ⟨x, e, _⟩ := name_by_ok mIndexS (fun _ h => meth_index h) (callF C08 n) sd k hk
  exact ⟨x, this.trans e⟩⟩
theorem c_G (n : Nat) : CfG (callF C08 (n + 2)) where
  part := fun sd c => by
    have : callF C08 (n + 2) (Str.ofString "_law_part_by") [.int sd, .int c] = s__law_part_by (callF C08 (n + 1)) (.int sd) (.int c) := by kernel_rfl
    rw [this]; exact part_by_ok (c_N n) sd c
  add := fun S r rows g a b c w hl hz hg ha hb hc hw => by
    have : callF C08 (n + 2) (Str.ofString "_law_added") [r, .int w, .tuple (g.map enc), .tuple [enc a, enc b, enc c]] = s__law_added (callF C08 (n + 1)) r (.int w) (.tuple (g.map enc)) (.tuple [enc a, enc b, enc c]) := by kernel_rfl
    rw [this]; exact added_ok hl hz g a b c hg ha hb hc w hw
  cell := fun xs k => by
    have : callF C08 (n + 2) (Str.ofString "_law_cell_at") [.list (xs.map D.int), .int k] = s__law_cell_at (callF C08 (n + 1)) (.list (xs.map D.int)) (.int k) := by kernel_rfl
    rw [this]; exact cell_at_ok _ xs k
  spo := fun r k c n' m part hk hr hp => by
    have : callF C08 (n + 2) (Str.ofString "_law_spoilt") [encR r, .int c, .int n', .int m, enc part] = s__law_spoilt (callF C08 (n + 1)) (encR r) (.int c) (.int n') (.int m) (enc part) := by kernel_rfl
    rw [this]
    refine spoilt_ok (fun u c n' m hu => ?_) r k hk hr c n' m part hp
    have : callF C08 (n + 1) (Str.ofString "_law_wrong_ups") [.tuple (u.map .int), .int c, .int n', .int m] = s__law_wrong_ups (callF C08 n) (.tuple (u.map .int)) (.int c) (.int n') (.int m) := by kernel_rfl
    rw [this]; exact wrong_ups_ok u hu c n' m
theorem c_fo (n : Nat) (S : Store) (r : D) (rows : List Rw) (k : Nat) (hl : listOf S r = some (rows.map encR)) (hk : k < rows.length) (hr : ∀ x ∈ rows, RwOk x) : callF C08 (n + 5) (Str.ofString "follows") [r, .int k] S = .ok (.bool (fol rows k)) S := by
  have : callF C08 (n + 5) (Str.ofString "follows") [r, .int k] = s_follows (callF C08 (n + 4)) r (.int k) := by kernel_rfl
  rw [this]; exact follows_ok (c_R n) hl hk hr
theorem c_8 : Cf8 (callF C08 6) where
  cell := fun xs k => by
    have : callF C08 6 (Str.ofString "_law_cell_at") [.list (xs.map D.int), .int k] = s__law_cell_at (callF C08 5) (.list (xs.map D.int)) (.int k) := by kernel_rfl
    rw [this]; exact cell_at_ok _ xs k
  rb := fun cs sd S => by
    have : callF C08 6 (Str.ofString "_law_rows_by") [.list (cs.map D.int), .int sd] = s__law_rows_by (callF C08 5) (.list (cs.map D.int)) (.int sd) := by kernel_rfl
    rw [this]; exact rows_by_ok (c_G 3) cs sd S
  sp := fun xs sd l rows S hS hp hsp => by
    have : callF C08 6 (Str.ofString "_law_all_spoilt") [.loc l, .list (xs.map D.int), .int sd] = s__law_all_spoilt (callF C08 5) (.loc l) (.list (xs.map D.int)) (.int sd) := by kernel_rfl
    rw [this]; exact all_spoilt_ok (c_G 3) xs sd l rows hS hp hsp
  fo := fun S r rows n hl hn hr => c_fo 1 S r rows n hl hn hr
  lf := fun S r rows n hl hn hr => by
    have : callF C08 6 (Str.ofString "_law_follows") [r, .int n] = s__law_follows (callF C08 5) r (.int n) := by kernel_rfl
    rw [this]; exact law_follows_ok (c_R 1) hl hn hr
  fa := fun S r rows hl hr hz => by
    have : callF C08 6 (Str.ofString "faults") [r] = s_faults (callF C08 5) r := by kernel_rfl
    rw [this]; exact faults_ok (fun n hn => c_fo 0 S r rows n hl hn hr) hl hz
theorem law_run (xs : List Int) : ∃ S', runFn C08 (callF C08 6) f_law [.list (xs.map D.int)] [] = .ok (.bool true) S' := by
  rw [e_law]
  exact law_ok c_8 xs []
end L08
end Mine
end

set_option Elab.async false
set_option maxRecDepth 100000
set_option maxHeartbeats 8000000
open PySem PySem.W PyProof.Rows
namespace Mine.L08
theorem meths_ok (m : Str) (i : Mine.MImpl) (h : C08.meths.lookup m = some i) : Mine.MImpl.Sound m i := by
  have h' : List.lookup m meths08 = some i := h
  unfold meths08 at h'
  rw [List.lookup_cons] at h'
  split at h'
  · rename_i q; cases h'; rw [beq_iff_eq.mp q]; exact Mine.mJoin_sound
  · rw [List.lookup_cons] at h'
    split at h'
    · rename_i q; cases h'; rw [beq_iff_eq.mp q]; exact Mine.mIndexS_sound
    · rw [List.lookup_cons] at h'
      split at h'
      · rename_i q; cases h'; rw [beq_iff_eq.mp q]; exact Mine.mGet_sound
      · rw [List.lookup_cons] at h'
        split at h'
        · rename_i q; cases h'; rw [beq_iff_eq.mp q]; exact Mine.mUpdate_sound
        · rw [List.lookup_cons] at h'
          split at h'
          · rename_i q; cases h'; rw [beq_iff_eq.mp q]; exact Mine.mAppend_sound
          · rw [List.lookup_cons] at h'
            split at h'
            · rename_i q; cases h'; rw [beq_iff_eq.mp q]; exact Mine.mUpper_sound
            · cases h'
theorem bfs_ok (m : Str) (i : Mine.BImpl) (h : C08.bfs.lookup m = some i) : Mine.BImpl.Sound m i := by
  have h' : List.lookup m bfs08 = some i := h
  unfold bfs08 at h'
  rw [List.lookup_cons] at h'
  split at h'
  · rename_i q; cases h'; rw [beq_iff_eq.mp q]; exact Mine.bMin2_sound
  · rw [List.lookup_cons] at h'
    split at h'
    · rename_i q; cases h'; rw [beq_iff_eq.mp q]; exact Mine.bMax_sound
    · cases h'
noncomputable abbrev pr08 : Program := PySem.Challenge.rw_uf010036_08.row.prog
noncomputable abbrev q08 : Program := view pr08 [2, 3, 4, 5, 6, 7, 8, 9, 11, 12, 13, 14, 15, 16, 17, 18, 19, 20, 21, 22]
noncomputable abbrev lo08 : List Str := [Str.ofString "COUNTS"]
noncomputable abbrev hk08 : Hook := myHook consts08 (fun _ => true) (fun _ _ => True) (fun _ _ _ => trivial) (fun _ _ _ h _ => h)
theorem left08 : LeftO pr08 q08 lo08 (fun s => xlAt q08 [] s && recOk (RowW.records PySem.Challenge.rw_uf010036_08.row.toRowW) s) hk08.obs hk08.val 1710 := LeftO.of_split "special-get-raises" fun w => by kernel_rfl
noncomputable def dk08 : DefRec × List (Str × Expr) := (defOf q08 PySem.Challenge.rw_uf010036_08.row.name).get (by kernel_rfl)
theorem walk08 : ∀ {d : DefRec} {kwd : List (Str × Expr)}, C08.fns.lookup d.name = some f_law → WalkO q08 lo08 (XL q08 []) hk08.says PySem.Challenge.rw_uf010036_08.row.toRowW d kwd (fun f vs => PySem.call f vs) := fun hd =>
  law_walk rfl rfl C08 6 f_law (by decide) (by kernel_rfl) (by kernel_rfl) (by kernel_rfl) (by kernel_rfl) rfl (fun w h mg Y g x d hl => Says.const (show Says consts08 (fun _ _ => True) w h from Y) g hl) meths_ok bfs_ok (fun _ => rev_sound) (fun _ _ => mul_sound) (fun G h1 h2 K Y => excPart_no (by rw [h1]; rfl) (fun c => by rw [h2]; rfl)) hd fun xs _ => law_run xs
end Mine.L08
theorem PySem.Challenge.cw_uf010036_08_holds : PySem.Challenge.rw_uf010036_08.Holds :=
  holds_law (by kernel_rfl) fun said => holds_open (d := Mine.L08.dk08.1) (kwd := Mine.L08.dk08.2) Mine.L08.left08 Mine.L08.hk08.of Mine.L08.hk08.keeps (fun s e => xl_of s (Bool.and_eq_true_iff.mp e).1) XL.keeps (by kernel_rfl) (by kernel_rfl) (by kernel_rfl) (fun s e => recFacts_of (Bool.and_eq_true_iff.mp e).2) rfl said (by decide +kernel) ⟨rfl, rfl, rfl, rfl, rfl, by decide +kernel⟩ (by w_witness2) (Mine.L08.walk08 (by kernel_rfl))

